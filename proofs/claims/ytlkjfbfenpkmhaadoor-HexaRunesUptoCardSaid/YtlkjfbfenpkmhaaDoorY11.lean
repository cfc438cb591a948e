/- Several texts in one: see the remarks ahead of each part. No condition but those told there. -/
import Derived.Test.YtlkjfbfenpkmhaaDoorY6
import Derived.Test.YtlkjfbfenpkmhaaDoorY10
import Derived.Test.YtlkjfbfenpkmhaaDoorY9
import Derived.Test.YtlkjfbfenpkmhaaDoorY4
import Derived.Test.YtlkjfbfenpkmhaaDoorY5
import Derived.Laws.StructEq
/- hexa.Number, hexa.just, hexa.Address, hexa.Hash. Condition: a text of at most 2^40 bytes. -/
namespace Go.Proofs.YtlkjfbfenpkmhaaDoor
set_option linter.unusedVariables false
set_option linter.unusedSimpArgs false
open Go Go.RowKit
theorem askN_f : AskP 40 askN := by
  intro N a n c l hs hn
  have hlen := hs.len8
  refine Fn.enter (vs := [.slice a n c]) Tryd.func40 rfl rfl rfl ?_
  intro E R hR
  have hs := hs.le (hR N (by simp))
  change At _ _ E [R] _
  refine At.seq fun K1 hk_1 => ?_
  refine At.region ?_
  refine op_assign (nxlf rfl) rfl rfl ?_
  refine At.opsNil ?_
  refine At.norm (hk_1 ?_)
  refine At.seq fun K2 hk_2 => ?_
  refine At.block ?_
  refine At.seq fun K3 hk_3 => ?_
  refine At.region ?_
  refine op_move (nxlf rfl) rfl rfl ?_
  refine op_lenS (nxlf rfl) se22 rfl rfl ?_
  refine op_eql (nxlf rfl) rfl rfl rfl ?_
  refine op_move (nxlf rfl) rfl rfl ?_
  refine At.partP (d := 7) rfl (fun g7 => ?_) (fun g7 => ?_)
  · refine op_move (nxgf rfl rfl rfl rfl) rfl rfl ?_
    refine op_idx1 (nxgf rfl rfl rfl rfl) se22 rfl rfl (by assumption) (show _ = ((0 : Nat) : Int) from rfl) (by omega) rfl ?_
    refine op_loadE (nxgf rfl rfl rfl rfl) sc5 rfl (by assumption) (by first | exact get8 (by omega) | exact get64 (by omega) | exact get32 (by omega)) (by first | exact mem0 | exact mem1 | exact mem2 | exact mem3 | exact mem4 | exact mem5 | exact mem6 | exact mem7 | exact mem8 | exact mem9) rfl ?_
    refine op_eql (nxgf rfl rfl rfl rfl) rfl rfl rfl ?_
    refine op_pickT (nxlf rfl) rfl rfl rfl ?_
    refine op_assign (nxlf rfl) rfl rfl ?_
    refine At.opsNil ?_
    refine At.norm (hk_3 ?_)
    refine At.condP rfl (fun c3 => ?_) (fun c3 => ?_)
    · refine At.seq fun K4 hk_4 => ?_
      refine At.region ?_
      refine op_assign (nxlf rfl) rfl rfl ?_
      refine At.opsNil ?_
      refine At.norm (hk_4 ?_)
      refine At.ret (At.inRet (At.thenRet (?_)))
      refine At.ret1 (L1 := []) rfl (.tmp rfl .nil) (.refl _) (.refl _) ?_
      first
        | exact ⟨by rw [askN, if_pos (by omega)]; rfl, rfl⟩
        | exact ⟨by rw [askN, if_neg (by omega), if_pos (by omega)]; rfl, rfl⟩
        | exact ⟨by rw [askN, if_neg (by omega), if_neg (by omega)]; rfl, rfl⟩
    · refine At.seq fun K5 hk_5 => ?_
      refine At.region ?_
      refine op_move (nxlf rfl) rfl rfl ?_
      refine op_lenS (nxlf rfl) se22 rfl rfl ?_
      refine op_eql (nxlf rfl) rfl rfl rfl ?_
      refine op_assign (nxlf rfl) rfl rfl ?_
      refine At.opsNil ?_
      refine At.norm (hk_5 ?_)
      refine At.condP rfl (fun c13 => ?_) (fun c13 => ?_)
      · refine At.seq fun K6 hk_6 => ?_
        refine At.region ?_
        refine op_assign (nxlf rfl) rfl rfl ?_
        refine At.opsNil ?_
        refine At.norm (hk_6 ?_)
        refine At.ret (At.inRet (At.thenRet (?_)))
        refine At.ret1 (L1 := []) rfl (.tmp rfl .nil) (.refl _) (.refl _) ?_
        first
          | exact ⟨by rw [askN, if_pos (by omega)]; rfl, rfl⟩
          | exact ⟨by rw [askN, if_neg (by omega), if_pos (by omega)]; rfl, rfl⟩
          | exact ⟨by rw [askN, if_neg (by omega), if_neg (by omega)]; rfl, rfl⟩
      · refine At.skip ?_
        refine At.inNorm ?_
        refine At.norm (hk_2 ?_)
        refine At.seq fun K7 hk_7 => ?_
        refine At.region ?_
        refine op_assign (nxlf rfl) rfl rfl ?_
        refine At.opsNil ?_
        refine At.norm (hk_7 ?_)
        refine At.ret (?_)
        refine At.ret1 (L1 := []) rfl (.tmp rfl .nil) (.refl _) (.refl _) ?_
        first
          | exact ⟨by rw [askN, if_pos (by omega)]; rfl, rfl⟩
          | exact ⟨by rw [askN, if_neg (by omega), if_pos (by omega)]; rfl, rfl⟩
          | exact ⟨by rw [askN, if_neg (by omega), if_neg (by omega)]; rfl, rfl⟩
  · refine op_skip rfl rfl rfl rfl rfl rfl rfl ?_
    refine op_skip rfl rfl rfl rfl rfl rfl rfl ?_
    refine op_skip rfl rfl rfl rfl rfl rfl rfl ?_
    refine op_skip rfl rfl rfl rfl rfl rfl rfl ?_
    refine op_pickF (nxlf rfl) rfl rfl rfl ?_
    refine op_assign (nxlf rfl) rfl rfl ?_
    refine At.opsNil ?_
    refine At.norm (hk_3 ?_)
    refine At.condF rfl ?_
    refine At.seq fun K8 hk_8 => ?_
    refine At.region ?_
    refine op_move (nxlf rfl) rfl rfl ?_
    refine op_lenS (nxlf rfl) se22 rfl rfl ?_
    refine op_eql (nxlf rfl) rfl rfl rfl ?_
    refine op_assign (nxlf rfl) rfl rfl ?_
    refine At.opsNil ?_
    refine At.norm (hk_8 ?_)
    refine At.condP rfl (fun c13 => ?_) (fun c13 => ?_)
    · refine At.seq fun K9 hk_9 => ?_
      refine At.region ?_
      refine op_assign (nxlf rfl) rfl rfl ?_
      refine At.opsNil ?_
      refine At.norm (hk_9 ?_)
      refine At.ret (At.inRet (At.thenRet (?_)))
      refine At.ret1 (L1 := []) rfl (.tmp rfl .nil) (.refl _) (.refl _) ?_
      first
        | exact ⟨by rw [askN, if_pos (by omega)]; rfl, rfl⟩
        | exact ⟨by rw [askN, if_neg (by omega), if_pos (by omega)]; rfl, rfl⟩
        | exact ⟨by rw [askN, if_neg (by omega), if_neg (by omega)]; rfl, rfl⟩
    · refine At.skip ?_
      refine At.inNorm ?_
      refine At.norm (hk_2 ?_)
      refine At.seq fun K10 hk_10 => ?_
      refine At.region ?_
      refine op_assign (nxlf rfl) rfl rfl ?_
      refine At.opsNil ?_
      refine At.norm (hk_10 ?_)
      refine At.ret (?_)
      refine At.ret1 (L1 := []) rfl (.tmp rfl .nil) (.refl _) (.refl _) ?_
      first
        | exact ⟨by rw [askN, if_pos (by omega)]; rfl, rfl⟩
        | exact ⟨by rw [askN, if_neg (by omega), if_pos (by omega)]; rfl, rfl⟩
        | exact ⟨by rw [askN, if_neg (by omega), if_neg (by omega)]; rfl, rfl⟩
theorem WOf4_f : Fn Tryd.prog 43 #[.int .u64 4] [] [] (fun v L => v = wo 4 ∧ L = []) := WOf_f 4
theorem amt4 : amt 4 = 4 := rfl
/-- A number, what is wrong, and where. -/
def NumP (z : Nat × Nat × Nat) (v : Value) (L : List Heaplet) : Prop := v = .tuple #[wo z.1, faultV (z.2.1 : Int) (z.2.2 : Int)] ∧ L = []
set_option maxRecDepth 100000 in
set_option maxHeartbeats 2000000 in
theorem FNumber_f (s : List UInt8) (hs : s.length ≤ 1099511627776) : Fn Tryd.prog 17 #[str s] [] [] (NumP (numR s)) := by
  obtain ⟨z, hz⟩ : ∃ z, readF askN 0 [] (runesOf s) = z := ⟨_, rfl⟩
  have hF := FRead_f Tryd.func40 rfl rfl askN_f s hs
  have hdl := readF_digits (ask := askN) (runesOf s) 0 [] (fun x hx => by cases hx)
  have hln := readF_len (ask := askN) (runesOf s) 0 []
  have h64 := readF_asked (runesOf s) 0 [] (by decide)
  have hrl := runes_len s
  obtain ⟨y, hy⟩ : ∃ y, numR s = y := ⟨_, rfl⟩
  have hR : y = if z.2.2 ≠ 0 then (0, z.2.2, z.2.1) else if z.1.length = 0 then (0, 2, z.2.1) else (numD z.1, 0, 0) := by rw [← hz, ← hy]; rfl
  rw [hz] at hF hdl hln h64
  rw [hy]
  obtain ⟨d, k, wy⟩ := z
  obtain ⟨W, wh, pl⟩ := y
  simp only at hdl hln h64 hR
  replace hF : Fn Tryd.prog 32 #[str s, .func (.func 40) #[] #[]] [] [] (fun v L => ∃ M a c, v = .tuple #[.slice a d.length c, .int .i64 (k : Int), faultV (wy : Int) ((if wy = 0 then 0 else k : Nat) : Int)] ∧ L = [M] ∧ RSl M 1 a d.length c (u8s d)) := hF
  have hdd := digit_lt hdl
  have hnl := numD_lt d hdd
  simp only [List.length_nil] at hln
  have hR0 : wy ≠ 0 → W = 0 ∧ wh = wy ∧ pl = k := fun h => by rw [if_pos h] at hR; injection hR with e1 e2; injection e2 with e2 e3; exact ⟨e1, e2, e3⟩
  have hR1 : wy = 0 → d.length = 0 → W = 0 ∧ wh = 2 ∧ pl = k := fun h h2 => by rw [if_neg (fun e => e h), if_pos h2] at hR; injection hR with e1 e2; injection e2 with e2 e3; exact ⟨e1, e2, e3⟩
  have hR2 : wy = 0 → ¬ d.length = 0 → W = numD d ∧ wh = 0 ∧ pl = 0 := fun h h2 => by rw [if_neg (fun e => e h), if_neg h2] at hR; injection hR with e1 e2; injection e2 with e2 e3; exact ⟨e1, e2, e3⟩
  refine Fn.enter (vs := [str s]) Tryd.func17 rfl rfl rfl ?_
  intro E R hR
  change At _ _ E [R] _
  refine At.seq fun K1 hk_1 => ?_
  refine At.region ?_
  refine op_alloc (nxla rfl) ze46 rfl (fun N2 b2 B2 => ?_)
  change Blk N2 b2 _ [.int .u64 0, .int .u64 0, .int .u64 0, .int .u64 0] at B2
  change Blk N2 b2 _ (u64s (wl 0)) at B2
  refine op_alloc (nxla rfl) ze30 rfl (fun N3 b3 B3 => ?_)
  change Blk N3 b3 _ [.int .i64 0, .int .i64 0] at B3
  change Blk N3 b3 _ [.int .i64 0, .int .i64 0] at B3
  refine At.opsNil ?_
  refine At.norm (hk_1 ?_)
  refine At.seq fun K2 hk_2 => ?_
  refine At.region ?_
  refine op_move (nxlf rfl) rfl rfl ?_
  refine op_callA (nxla rfl) (.cons rfl (.cons rfl .nil)) (hF) Tryd.func32 rfl rfl (by simp) rfl ?_
  rintro v12 L12 ⟨N12, a12, c12, rfl, rfl, s12⟩
  change At _ _ _ [N12, N3, N2, R] _
  refine op_move (nxlf rfl) rfl rfl ?_
  refine op_extract (nxlf rfl) rfl rfl rfl ?_
  refine op_extract (nxlf rfl) rfl rfl rfl ?_
  refine op_extract (nxlf rfl) rfl rfl rfl ?_
  refine op_alloc (nxla rfl) ze30 rfl (fun N6 b6 B6 => ?_)
  change Blk N6 b6 _ [.int .i64 0, .int .i64 0] at B6
  refine op_assign (nxlf rfl) rfl rfl ?_
  refine op_assign (nxlf rfl) rfl rfl ?_
  refine op_store (nxl rfl) sz30 rfl rfl rfl rfl rfl B6 (by simp) sel0 (fun N6 B6 => ?_)
  simp only [setL, List.set] at B6
  refine At.opsNil ?_
  refine At.norm (hk_2 ?_)
  refine At.seq fun K3 hk_3 => ?_
  refine At.block ?_
  refine At.seq fun K4 hk_4 => ?_
  refine At.region ?_
  refine op_fieldAddr (nxlf rfl) fl30_0 rfl rfl ?_
  refine op_loadB (nxlf rfl) sc28 rfl B6 (by first | rfl) mem0 rfl ?_
  refine op_neq (nxlf rfl) rfl rfl rfl ?_
  refine op_assign (nxlf rfl) rfl rfl ?_
  refine At.opsNil ?_
  refine At.norm (hk_4 ?_)
  refine At.condP rfl (fun c16 => ?_) (fun c16 => ?_)
  · refine At.knowT (d := 16) rfl c16 ?_
    obtain ⟨hW, hwh, hpl⟩ := hR0 (by omega)
    refine At.seq fun K5 hk_5 => ?_
    refine At.perm sel4 ?_
    refine At.perm sel2 ?_
    refine At.perm sel2 ?_
    refine At.perm sel4 ?_
    refine At.perm sel4 ?_
    refine At.drawnS [N6, N12, R] [3] [] [0,1,2,3] (by kernel_rfl) (by kernel_rfl) (.cons _ (.cons _ (.refl _))) ?_
    refine op_buildA (out := [.int .u64 0, .int .u64 0, .int .u64 0, .int .u64 0]) (nxsf rfl rfl rfl) ze46 ae46 .nil rfl rfl ?_
    refine op_loadAggB (ds := [_, _]) (nxsf rfl rfl rfl) ag30 rfl B6 rfl rfl mem0 rfl ?_
    refine op_store (nxsm rfl rfl rfl) sz46 rfl rfl rfl rfl rfl B2 (by simp) sel1 (fun N2 B2 => ?_)
    change Blk N2 b2 _ (u64s (wl 0)) at B2; rw [← hW] at B2
    refine At.moreS (Lst := [N6, N12, R]) (Lst' := [N6, N12, R]) (.refl _) (.cons _ (.cons _ (.refl _))) ?_
    refine op_store (nxsl rfl rfl rfl rfl) sz30 rfl rfl rfl rfl rfl B3 (by simp) sel1 (fun N3 B3 => ?_)
    simp only [setL, List.set] at B3
    refine At.sNil ?_
    refine At.norm (hk_5 ?_)
    refine At.ret (At.inRet (At.thenRet (?_)))
    refine At.sub (L' := [N3, N2, R]) (.cons_cons _ (.cons_cons _ (.cons _ (.cons _ (.cons_cons _ (.slnil)))))) ?_
    refine At.perm sel2 ?_
    refine At.perm sel1 ?_
    refine At.perm sel2 ?_
    refine At.retN (L1 := []) rfl (.cell rfl (res_agg (ds := u64s (wl W)) ag46 B2 (by first | (rw [List.drop_zero, List.take_of_length_le (by first | (simp; done) | (simp; omega))]; done) | rfl) (by first | (simp; done) | (simp; omega)) mem0) (.cell rfl (res_agg (ds := [_, _]) ag30 B3 rfl rfl mem1) .nil)) rfl (.cons _ (.cons _ (.refl _))) (.refl _) ?_
    exact ⟨by rw [hwh, hpl, if_neg (by omega)]; rfl, rfl⟩
  · refine At.knowF (d := 16) rfl c16 ?_
    refine At.seq fun K6 hk_6 => ?_
    refine At.region ?_
    refine op_move (nxlf rfl) rfl rfl ?_
    refine op_lenS (nxlf rfl) se22 rfl rfl ?_
    refine op_eql (nxlf rfl) rfl rfl rfl ?_
    refine op_assign (nxlf rfl) rfl rfl ?_
    refine At.opsNil ?_
    refine At.norm (hk_6 ?_)
    refine At.condP rfl (fun c22 => ?_) (fun c22 => ?_)
    · refine At.knowT (d := 22) rfl c22 ?_
      obtain ⟨hW, hwh, hpl⟩ := hR1 (by omega) (by omega)
      refine At.seq fun K7 hk_7 => ?_
      refine At.region ?_
      refine op_buildA (out := [.int .u64 0, .int .u64 0, .int .u64 0, .int .u64 0]) (nxlf rfl) ze46 ae46 .nil rfl rfl ?_
      refine op_move (nxlf rfl) rfl rfl ?_
      refine op_callA (nxla rfl) (.cons rfl (.cons rfl .nil)) (FFault_f 2 (k : Int)) Tryd.func34 rfl rfl (by simp) rfl ?_
      rintro v28 L28 ⟨rfl, rfl⟩
      change At _ _ _ [N6, N12, N3, N2, R] _
      refine op_store (nxl rfl) sz46 rfl rfl rfl rfl rfl B2 (by simp) sel3 (fun N2 B2 => ?_)
      change Blk N2 b2 _ (u64s (wl 0)) at B2; rw [← hW] at B2
      refine op_store (nxl rfl) sz30 rfl rfl rfl rfl rfl B3 (by simp) sel3 (fun N3 B3 => ?_)
      simp only [setL, List.set] at B3
      refine At.opsNil ?_
      refine At.norm (hk_7 ?_)
      refine At.ret (At.inRet (At.thenRet (?_)))
      refine At.sub (L' := [N3, N2, R]) (.cons_cons _ (.cons_cons _ (.cons _ (.cons _ (.cons_cons _ (.slnil)))))) ?_
      refine At.perm sel2 ?_
      refine At.perm sel1 ?_
      refine At.perm sel2 ?_
      refine At.retN (L1 := []) rfl (.cell rfl (res_agg (ds := u64s (wl W)) ag46 B2 (by first | (rw [List.drop_zero, List.take_of_length_le (by first | (simp; done) | (simp; omega))]; done) | rfl) (by first | (simp; done) | (simp; omega)) mem0) (.cell rfl (res_agg (ds := [_, _]) ag30 B3 rfl rfl mem1) .nil)) rfl (.cons _ (.cons _ (.refl _))) (.refl _) ?_
      exact ⟨by rw [hwh, hpl]; rfl, rfl⟩
    · refine At.knowF (d := 22) rfl c22 ?_
      obtain ⟨hW, hwh, hpl⟩ := hR2 (by omega) (by omega)
      refine At.skip ?_
      refine At.inNorm ?_
      refine At.norm (hk_3 ?_)
      refine At.seq fun K8 hk_8 => ?_
      refine At.region ?_
      refine op_alloc (nxla rfl) ze46 rfl (fun N7 b7 B7 => ?_)
      change Blk N7 b7 _ [.int .u64 0, .int .u64 0, .int .u64 0, .int .u64 0] at B7
      change Blk N7 b7 _ (u64s (wl 0)) at B7
      refine At.opsNil ?_
      refine At.norm (hk_8 ?_)
      refine At.seq fun K9 hk_9 => ?_
      refine At.seq fun K10 hk_10 => ?_
      refine At.region ?_
      refine op_move (nxlf rfl) rfl rfl ?_
      refine op_lenS (nxlf rfl) se22 rfl rfl ?_
      refine op_move (nxlf rfl) rfl rfl ?_
      refine At.opsNil ?_
      refine At.norm (hk_10 ?_)
      refine At.block ?_
      refine At.loop (fun fr_ hp_ ms_ => ∃ (i : Nat) (N7 : Heaplet), fr_ = [(2, .pointer (some ⟨b2, 0, none⟩)), (3, .pointer (some ⟨b3, 0, none⟩)), (7, .pointer (some ⟨b7, 0, none⟩)), (29, .slice a12 d.length c12), (30, .int .i64 (d.length : Int)), (31, .int .i64 (i : Int))] ∧ hp_ = [N7, N6, N12, N3, N2, R] ∧ d.length - i = ms_ ∧ (i ≤ d.length) ∧ (Blk N7 b7 46 (u64s (wl (numD (d.take i)))))) ?_ (.refl _) ⟨0, N7, rfl, rfl, rfl, Nat.zero_le _, B7⟩ ?_
      · exact .cons (by first | exact lkI rfl (by omega) | rfl) (.cons (by first | exact lkI rfl (by omega) | rfl) (.cons (by first | exact lkI rfl (by omega) | rfl) (.cons (by first | exact lkI rfl (by omega) | rfl) (.cons (by first | exact lkI rfl (by omega) | rfl) (.cons (by first | exact lkI rfl (by omega) | rfl) .nil)))))
      rintro _ _ _ ⟨i, N7, rfl, rfl, rfl, hi, B7⟩
      refine At.seq fun K11 hk_11 => ?_
      refine At.region ?_
      refine op_lss (nxlf rfl) rfl rfl rfl ?_
      refine At.opsNil ?_
      refine At.norm (hk_11 ?_)
      refine At.seq fun K12 hk_12 => ?_
      refine At.condP rfl (fun c32 => ?_) (fun c32 => ?_)
      · refine At.knowT (d := 32) rfl c32 ?_
        have hlt : i < d.length := by omega
        have hV := hnl i (by omega)
        have hp := hexPow64 (i := i) (by omega)
        have hxi := hdd i
        have hu8 : (UInt64.ofNat (d.getD i 0).toNat).toNat = (d.getD i 0).toNat := by rw [UInt64.toNat_ofNat']; omega
        have hVW : numD (d.take i) * 2 ^ amt 4 < WW := by rw [amt4]; show _ * 16 < 2 ^ 256; omega
        have hV0 : numD (d.take i) < WW := by show _ < 2 ^ 256; omega
        refine At.skip ?_
        refine At.norm (hk_12 ?_)
        refine At.seq fun K13 hk_13 => ?_
        refine At.block ?_
        refine At.seq fun K14 hk_14 => ?_
        refine At.region ?_
        refine op_idx1 (nxlf rfl) se22 rfl rfl s12 (by first | rfl | exact (Int.toNat_of_nonneg (by omega)).symm) (by omega) rfl ?_
        refine op_loadE (nxlf rfl) sc5 rfl s12 (by first | exact get8 (by omega) | exact get64 (by omega) | exact get32 (by omega)) (by first | exact mem0 | exact mem1 | exact mem2 | exact mem3 | exact mem4 | exact mem5 | exact mem6 | exact mem7 | exact mem8 | exact mem9) rfl ?_
        refine op_assign (nxlf rfl) rfl rfl ?_
        refine At.opsNil ?_
        refine At.norm (hk_14 ?_)
        refine At.drawn [5,6,7] [1,3,4,0,2,5,6,7] (by kernel_rfl) (by kernel_rfl) ?_
        refine op_loadAggB (ds := u64s (wl (numD (d.take i)))) (nxof rfl rfl rfl (by kernel_rfl)) ag46 rfl B7 (by first | (rw [List.drop_zero, List.take_of_length_le (by first | (simp; done) | (simp; omega))]; done) | rfl) (by first | (simp; done) | (simp; omega)) mem0 rfl ?_
        refine op_move (nxof rfl rfl rfl (by kernel_rfl)) rfl rfl ?_
        refine op_conv64 (nxof rfl rfl rfl (by kernel_rfl)) (und_some Tryd.underlying5) Tryd.underlying44 rfl (by first | rfl | exact (Int.toNat_of_nonneg (by omega)).symm) rfl ?_
        refine op_callA (nxoa rfl rfl rfl) (.cons rfl .nil) (WOf4_f) Tryd.func43 rfl rfl (by simp) rfl ?_
        rintro v35 L35 ⟨rfl, rfl⟩
        change At _ _ _ [N7, N6, N12, N3, N2, R] _
        refine op_callA (nxoa rfl rfl rfl) (.cons rfl (.cons rfl .nil)) (WShl_f (m := 4) (x := numD (d.take i)) (by decide) hV0) Tryd.func42 rfl rfl (by simp) rfl ?_
        rintro v37 L37 ⟨rfl, rfl⟩
        change At _ _ _ [N7, N6, N12, N3, N2, R] _
        refine op_callA (nxosa rfl rfl rfl rfl) (.cons rfl .nil) (WOf_f (UInt64.ofNat (d.getD i 0).toNat)) Tryd.func43 rfl rfl (by simp) rfl ?_
        rintro v40 L40 ⟨rfl, rfl⟩
        change At _ _ _ [N7, N6, N12, N3, N2, R] _
        rw [hu8]
        refine op_callA (nxosa rfl rfl rfl rfl) (.cons rfl (.cons rfl .nil)) (WOr_f (x := numD (d.take i) * 2 ^ amt 4) (y := (d.getD i 0).toNat) hVW (Nat.lt_of_lt_of_le hxi (by decide))) Tryd.func41 rfl rfl (by simp) rfl ?_
        rintro v41 L41 ⟨rfl, rfl⟩
        change At _ _ _ [N7, N6, N12, N3, N2, R] _
        rw [amt4, show (2 : Nat) ^ 4 = 16 from rfl, or_digit _ hxi, ← numD_take hlt]
        refine op_store (nxos rfl rfl rfl rfl) sz46 rfl rfl rfl rfl rfl B7 (by simp) sel0 (fun N7 B7 => ?_)
        rw [setL_whole (by simp)] at B7
        refine At.oneNil ?_
        refine At.inNorm ?_
        refine At.norm (hk_13 ?_)
        refine At.region ?_
        refine op_addI (nxlf rfl) rfl rfl (by omega) (by omega) rfl ?_
        refine op_move (nxlf rfl) rfl rfl ?_
        refine At.opsNil ?_
        refine At.norm ?_
        refine At.back ?_ (.refl _) ⟨i + 1, N7, rfl, rfl, rfl, by omega, B7⟩ ?_
        · exact .cons (by first | exact lkI rfl (by omega) | rfl) (.cons (by first | exact lkI rfl (by omega) | rfl) (.cons (by first | exact lkI rfl (by omega) | rfl) (.cons (by first | exact lkI rfl (by omega) | rfl) (.cons (by first | exact lkI rfl (by omega) | rfl) (.cons (by first | exact lkI rfl (by omega) | rfl) .nil)))))
        · omega
      · refine At.knowF (d := 32) rfl c32 ?_
        refine At.exit (At.thenExit (At.thenExit (At.inHit ?_)))
        refine At.norm (hk_9 ?_)
        refine At.seq fun K15 hk_15 => ?_
        refine At.region ?_
        rw [show i = d.length by omega, List.take_length] at B7
        refine op_loadAggB (ds := u64s (wl (numD d))) (nxlf rfl) ag46 rfl B7 (by first | (rw [List.drop_zero, List.take_of_length_le (by first | (simp; done) | (simp; omega))]; done) | rfl) (by first | (simp; done) | (simp; omega)) mem0 rfl ?_
        refine op_build (out := [.int .i64 0, .int .i64 0]) (nxlf rfl) ze30 pl30 .nil rfl rfl ?_
        refine op_store (nxl rfl) sz46 rfl rfl rfl rfl rfl B2 (by simp) sel4 (fun N2 B2 => ?_)
        rw [setL_whole (by simp), ← hW] at B2
        refine op_store (nxl rfl) sz30 rfl rfl rfl rfl rfl B3 (by simp) sel4 (fun N3 B3 => ?_)
        simp only [setL, List.set] at B3
        refine At.opsNil ?_
        refine At.norm (hk_15 ?_)
        refine At.ret (?_)
        refine At.sub (L' := [N3, N2, R]) (.cons_cons _ (.cons_cons _ (.cons _ (.cons _ (.cons _ (.cons_cons _ (.slnil))))))) ?_
        refine At.perm sel2 ?_
        refine At.perm sel1 ?_
        refine At.perm sel2 ?_
        refine At.retN (L1 := []) rfl (.cell rfl (res_agg (ds := u64s (wl W)) ag46 B2 (by first | (rw [List.drop_zero, List.take_of_length_le (by first | (simp; done) | (simp; omega))]; done) | rfl) (by first | (simp; done) | (simp; omega)) mem0) (.cell rfl (res_agg (ds := [_, _]) ag30 B3 rfl rfl mem1) .nil)) rfl (.cons _ (.cons _ (.refl _))) (.refl _) ?_
        exact ⟨by rw [hwh, hpl]; rfl, rfl⟩
end Go.Proofs.YtlkjfbfenpkmhaaDoor
/- strings.TrimPrefix, strings.TrimLeft of one byte; hexa.Quantity. No condition. -/
namespace Go.Proofs.YtlkjfbfenpkmhaaDoor
set_option linter.unusedVariables false
set_option linter.unusedSimpArgs false
open Go Go.RowKit
theorem FHasP_f {l p : List UInt8} (hle : p.length ≤ l.length) (ht : l.take p.length = p) : Fn Tryd.prog 85 #[str l, str p] [] [] (fun v L => v = .bool true ∧ L = []) := by
  refine Fn.enter (vs := [str l, str p]) Tryd.func85 rfl rfl rfl ?_
  intro E R hR
  change At _ _ E [R] _
  refine At.seq fun K1 hk_1 => ?_
  refine At.region ?_
  refine op_assign (nxlf rfl) rfl rfl ?_
  refine At.opsNil ?_
  refine At.norm (hk_1 ?_)
  refine At.seq fun K2 hk_2 => ?_
  refine At.region ?_
  refine op_move (nxlf rfl) rfl rfl ?_
  refine op_lenStr (nxlf rfl) Tryd.underlying9 rfl rfl ?_
  refine op_move (nxlf rfl) rfl rfl ?_
  refine op_lenStr (nxlf rfl) Tryd.underlying9 rfl rfl ?_
  refine op_geq (nxlf rfl) rfl rfl rfl ?_
  refine op_move (nxlf rfl) rfl rfl ?_
  refine At.partP (d := 10) rfl (fun g10 => ?_) (fun g10 => ?_)
  · refine op_move (nxgf rfl rfl rfl rfl) rfl rfl ?_
    refine op_move (nxgf rfl rfl rfl rfl) rfl rfl ?_
    refine op_lenStr (nxgf rfl rfl rfl rfl) Tryd.underlying9 rfl rfl ?_
    refine op_sliceStr (nxgf rfl rfl rfl rfl) Tryd.underlying9 rfl .none (.some rfl (show _ = (((p.length : Nat)) : Int) from by omega)) .none (by omega) (by omega) (by omega) (by simp) rfl ?_
    rw [List.drop_zero, Nat.sub_zero, ht]
    refine op_move (nxgf rfl rfl rfl rfl) rfl rfl ?_
    refine op_eqS (nxgf rfl rfl rfl rfl) rfl rfl rfl ?_
    refine op_pickT (nxlf rfl) rfl rfl rfl ?_
    refine op_assign (nxlf rfl) rfl rfl ?_
    refine At.opsNil ?_
    refine At.norm (hk_2 ?_)
    refine At.ret (?_)
    refine At.ret1 (L1 := []) rfl (.tmp rfl .nil) (.refl _) (.refl _) ?_
    exact ⟨by rw [decide_eq_true rfl], rfl⟩
  · exfalso; omega
theorem FTrimP_f {l p : List UInt8} (hle : p.length ≤ l.length) (ht : l.take p.length = p) : Fn Tryd.prog 53 #[str l, str p] [] [] (fun v L => v = str (l.drop p.length) ∧ L = []) := by
  have h : Fn Tryd.prog 71 #[str l, str p] [] [] (fun v L => v = str (l.drop p.length) ∧ L = []) := by
    refine Fn.enter (vs := [str l, str p]) Tryd.func71 rfl rfl rfl ?_
    intro E R hR
    change At _ _ E [R] _
    refine At.seq fun K1 hk_1 => ?_
    refine At.region ?_
    refine op_assign (nxlf rfl) rfl rfl ?_
    refine At.opsNil ?_
    refine At.norm (hk_1 ?_)
    refine At.seq fun K2 hk_2 => ?_
    refine At.seq fun K3 hk_3 => ?_
    refine At.region ?_
    refine op_move (nxlf rfl) rfl rfl ?_
    refine op_move (nxlf rfl) rfl rfl ?_
    refine op_callA (nxla rfl) (.cons rfl (.cons rfl .nil)) (FHasP_f hle ht) Tryd.func85 rfl rfl (by simp) rfl ?_
    rintro v7 L7 ⟨rfl, rfl⟩
    change At _ _ _ [R] _
    refine At.opsNil ?_
    refine At.norm (hk_3 ?_)
    refine At.condT rfl ?_
    refine At.seq fun K4 hk_4 => ?_
    refine At.region ?_
    refine op_move (nxlf rfl) rfl rfl ?_
    refine op_move (nxlf rfl) rfl rfl ?_
    refine op_lenStr (nxlf rfl) Tryd.underlying9 rfl rfl ?_
    refine op_sliceStr (nxlf rfl) Tryd.underlying9 rfl (.some rfl (show _ = (((p.length : Nat)) : Int) from by omega)) .none .none (by omega) (by omega) (by omega) (by simp) rfl ?_
    rw [show (l.drop p.length).take (l.length - p.length) = l.drop p.length from List.take_of_length_le (by rw [List.length_drop]; exact Nat.le_refl _)]
    refine op_assign (nxlf rfl) rfl rfl ?_
    refine At.opsNil ?_
    refine At.norm (hk_4 ?_)
    refine At.ret (At.thenRet (?_))
    refine At.ret1 (L1 := []) rfl (.tmp rfl .nil) (.refl _) (.refl _) ?_
    exact ⟨rfl, rfl⟩
  refine Fn.enter (vs := [str l, str p]) Tryd.func53 rfl rfl rfl ?_
  intro E R hR
  change At _ _ E [R] _
  refine At.seq fun K1 hk_1 => ?_
  refine At.region ?_
  refine op_assign (nxlf rfl) rfl rfl ?_
  refine At.opsNil ?_
  refine At.norm (hk_1 ?_)
  refine At.seq fun K2 hk_2 => ?_
  refine At.region ?_
  refine op_move (nxlf rfl) rfl rfl ?_
  refine op_move (nxlf rfl) rfl rfl ?_
  refine op_callA (nxla rfl) (.cons rfl (.cons rfl .nil)) (h) Tryd.func71 rfl rfl (by simp) rfl ?_
  rintro v7 L7 ⟨rfl, rfl⟩
  change At _ _ _ [R] _
  refine op_assign (nxlf rfl) rfl rfl ?_
  refine At.opsNil ?_
  refine At.norm (hk_2 ?_)
  refine At.ret (?_)
  refine At.ret1 (L1 := []) rfl (.tmp rfl .nil) (.refl _) (.refl _) ?_
  exact ⟨rfl, rfl⟩
/-- A text without this byte ahead. -/
def dropB (c : UInt8) (l : List UInt8) : List UInt8 := l.dropWhile (· == c)
theorem dropB_y {c : UInt8} {t : List UInt8} (h : 0 < t.length) (he : (t.getD 0 0).toNat = c.toNat) : dropB c (t.drop 1) = dropB c t := by
  cases t with
  | nil => cases h
  | cons x t =>
    have : x = c := UInt8.toNat_inj.1 he
    subst this
    simp [dropB]
theorem dropB_n {c : UInt8} {t : List UInt8} (he : ¬ (t.getD 0 0).toNat = c.toNat) : dropB c t = t := by
  cases t with
  | nil => rfl
  | cons x t =>
    have : x ≠ c := fun e => he (by rw [← e]; rfl)
    simp [dropB, this]
theorem dropB_len (c : UInt8) (l : List UInt8) : (dropB c l).length ≤ l.length := (List.dropWhile_sublist _).length_le
theorem FTrimB_f (l : List UInt8) (c : UInt8) : Fn Tryd.prog 67 #[str l, .int .u8 (c.toNat : Int)] [] [] (fun v L => v = str (dropB c l) ∧ L = []) := by
  obtain ⟨z, hz⟩ : ∃ z, dropB c l = z := ⟨_, rfl⟩
  rw [hz]
  refine Fn.enter (vs := [str l, .int .u8 (c.toNat : Int)]) Tryd.func67 rfl rfl rfl ?_
  intro E R hR
  change At _ _ E [R] _
  refine At.seq fun K1 hk_1 => ?_
  refine At.region ?_
  refine op_assign (nxlf rfl) rfl rfl ?_
  refine At.opsNil ?_
  refine At.norm (hk_1 ?_)
  refine At.seq fun K2 hk_2 => ?_
  refine At.block ?_
  refine At.loop (fun fr_ hp_ ms_ => ∃ (t : List UInt8), fr_ = [(0, str t), (1, .int .u8 (c.toNat : Int))] ∧ hp_ = [R] ∧ t.length = ms_ ∧ (dropB c t = z)) ?_ (.refl _) ⟨l, rfl, rfl, rfl, hz⟩ ?_
  · exact .cons (by first | exact lkI rfl (by omega) | rfl) (.cons (by first | exact lkI rfl (by omega) | rfl) .nil)
  rintro _ _ _ ⟨t, rfl, rfl, rfl, hd⟩
  refine At.seq fun K3 hk_3 => ?_
  refine At.seq fun K4 hk_4 => ?_
  refine At.region ?_
  refine op_move (nxlf rfl) rfl rfl ?_
  refine op_lenStr (nxlf rfl) Tryd.underlying9 rfl rfl ?_
  refine op_gtr (nxlf rfl) rfl rfl rfl ?_
  refine op_move (nxlf rfl) rfl rfl ?_
  refine At.partP (d := 8) rfl (fun g8 => ?_) (fun g8 => ?_)
  · refine op_move (nxgf rfl rfl rfl rfl) rfl rfl ?_
    refine op_idxS (nxgf rfl rfl rfl rfl) Tryd.underlying9 rfl rfl (show _ = (((0 : Nat)) : Int) from by omega) (by omega) rfl ?_
    refine op_move (nxgf rfl rfl rfl rfl) rfl rfl ?_
    refine op_eql (nxgf rfl rfl rfl rfl) rfl rfl rfl ?_
    refine op_pickT (nxlf rfl) rfl rfl rfl ?_
    refine At.opsNil ?_
    refine At.norm (hk_4 ?_)
    refine At.condP rfl (fun c13 => ?_) (fun c13 => ?_)
    · refine At.knowT (d := 13) rfl c13 ?_
      refine At.skip ?_
      refine At.norm (hk_3 ?_)
      refine At.block ?_
      refine At.region ?_
      refine op_move (nxlf rfl) rfl rfl ?_
      refine op_sliceStr (nxlf rfl) Tryd.underlying9 rfl (.some rfl (show _ = (((1 : Nat)) : Int) from by omega)) .none .none (by omega) (by omega) (by omega) (by simp) rfl ?_
      rw [show (t.drop 1).take (t.length - 1) = t.drop 1 from List.take_of_length_le (by rw [List.length_drop]; exact Nat.le_refl _)]
      refine op_assign (nxlf rfl) rfl rfl ?_
      refine At.opsNil ?_
      refine At.inNorm ?_
      refine At.norm ?_
      refine At.back ?_ (.refl _) ⟨t.drop 1, rfl, rfl, rfl, by rw [dropB_y (by omega) (by omega)]; exact hd⟩ ?_
      · exact .cons (by first | exact lkI rfl (by omega) | rfl) (.cons (by first | exact lkI rfl (by omega) | rfl) .nil)
      · (rw [List.length_drop]; omega)
    · refine At.knowF (d := 13) rfl c13 ?_
      refine At.exit (At.thenExit (At.thenExit (At.inHit ?_)))
      refine At.norm (hk_2 ?_)
      refine At.seq fun K5 hk_5 => ?_
      refine At.region ?_
      refine op_move (nxlf rfl) rfl rfl ?_
      refine op_assign (nxlf rfl) rfl rfl ?_
      refine At.opsNil ?_
      refine At.norm (hk_5 ?_)
      refine At.ret (?_)
      refine At.ret1 (L1 := []) rfl (.tmp rfl .nil) (.refl _) (.refl _) ?_
      rw [dropB_n (by omega)] at hd
      exact ⟨by rw [hd], rfl⟩
  · refine op_skip rfl rfl rfl rfl rfl rfl rfl ?_
    refine op_skip rfl rfl rfl rfl rfl rfl rfl ?_
    refine op_skip rfl rfl rfl rfl rfl rfl rfl ?_
    refine op_skip rfl rfl rfl rfl rfl rfl rfl ?_
    refine op_pickF (nxlf rfl) rfl rfl rfl ?_
    refine At.opsNil ?_
    refine At.norm (hk_4 ?_)
    refine At.condF rfl ?_
    refine At.exit (At.thenExit (At.thenExit (At.inHit ?_)))
    refine At.norm (hk_2 ?_)
    refine At.seq fun K6 hk_6 => ?_
    refine At.region ?_
    refine op_move (nxlf rfl) rfl rfl ?_
    refine op_assign (nxlf rfl) rfl rfl ?_
    refine At.opsNil ?_
    refine At.norm (hk_6 ?_)
    refine At.ret (?_)
    refine At.ret1 (L1 := []) rfl (.tmp rfl .nil) (.refl _) (.refl _) ?_
    have e : t = [] := List.eq_nil_of_length_eq_zero (by omega)
    subst e
    exact ⟨by rw [← hd]; rfl, rfl⟩
theorem FTrimL_f (l : List UInt8) : Fn Tryd.prog 52 #[str l, str [48]] [] [] (fun v L => v = str (dropB 48 l) ∧ L = []) := by
  refine Fn.enter (vs := [str l, str [48]]) Tryd.func52 rfl rfl rfl ?_
  intro E R hR
  change At _ _ E [R] _
  refine At.seq fun K1 hk_1 => ?_
  refine At.region ?_
  refine op_assign (nxlf rfl) rfl rfl ?_
  refine At.opsNil ?_
  refine At.norm (hk_1 ?_)
  refine At.seq fun K2 hk_2 => ?_
  refine At.seq fun K3 hk_3 => ?_
  refine At.region ?_
  refine op_move (nxlf rfl) rfl rfl ?_
  refine op_eqS (b := []) (nxlf rfl) rfl rfl rfl ?_
  refine op_move (nxlf rfl) rfl rfl ?_
  refine At.partP (d := 9) rfl (fun g9 => ?_) (fun g9 => ?_)
  · refine op_skip rfl rfl rfl rfl rfl rfl rfl ?_
    refine op_skip rfl rfl rfl rfl rfl rfl rfl ?_
    refine op_pickT (nxlf rfl) rfl rfl rfl ?_
    refine At.opsNil ?_
    refine At.norm (hk_3 ?_)
    refine At.condT rfl ?_
    refine At.seq fun K4 hk_4 => ?_
    refine At.region ?_
    refine op_move (nxlf rfl) rfl rfl ?_
    refine op_assign (nxlf rfl) rfl rfl ?_
    refine At.opsNil ?_
    refine At.norm (hk_4 ?_)
    refine At.ret (At.thenRet (?_))
    refine At.ret1 (L1 := []) rfl (.tmp rfl .nil) (.refl _) (.refl _) ?_
    have e : l = [] := g9
    subst e
    exact ⟨rfl, rfl⟩
  · refine op_move (nxgf rfl rfl rfl rfl) rfl rfl ?_
    refine op_eqS (b := []) (nxgf rfl rfl rfl rfl) rfl rfl rfl ?_
    refine op_pickF (nxlf rfl) rfl rfl rfl ?_
    refine At.opsNil ?_
    refine At.norm (hk_3 ?_)
    refine At.condP rfl (fun c12 => ?_) (fun c12 => ?_)
    · exact absurd c12 (by decide)
    · refine At.knowF (d := 12) rfl c12 ?_
      refine At.skip ?_
      refine At.norm (hk_2 ?_)
      refine At.seq fun K5 hk_5 => ?_
      refine At.seq fun K6 hk_6 => ?_
      refine At.region ?_
      refine op_move (nxlf rfl) rfl rfl ?_
      refine op_lenStr (nxlf rfl) Tryd.underlying9 rfl rfl ?_
      refine op_eql (nxlf rfl) rfl rfl rfl ?_
      refine op_move (nxlf rfl) rfl rfl ?_
      refine At.partP (d := 17) rfl (fun g17 => ?_) (fun g17 => ?_)
      · refine op_move (nxgf rfl rfl rfl rfl) rfl rfl ?_
        refine op_idxS (nxgf rfl rfl rfl rfl) Tryd.underlying9 rfl rfl (show _ = (((0 : Nat)) : Int) from by omega) (by omega) rfl ?_
        refine op_lss (nxgf rfl rfl rfl rfl) rfl rfl rfl ?_
        refine op_pickT (nxlf rfl) rfl rfl rfl ?_
        refine At.opsNil ?_
        refine At.norm (hk_6 ?_)
        refine At.condP rfl (fun c21 => ?_) (fun c21 => ?_)
        · refine At.knowT (d := 21) rfl c21 ?_
          refine At.seq fun K7 hk_7 => ?_
          refine At.region ?_
          refine op_move (nxlf rfl) rfl rfl ?_
          refine op_move (nxlf rfl) rfl rfl ?_
          refine op_idxS (nxlf rfl) Tryd.underlying9 rfl rfl (show _ = (((0 : Nat)) : Int) from by omega) (by omega) rfl ?_
          refine op_callA (nxla rfl) (.cons rfl (.cons rfl .nil)) (FTrimB_f l 48) Tryd.func67 rfl rfl (by simp) rfl ?_
          rintro v25 L25 ⟨rfl, rfl⟩
          change At _ _ _ [R] _
          refine op_assign (nxlf rfl) rfl rfl ?_
          refine At.opsNil ?_
          refine At.norm (hk_7 ?_)
          refine At.ret (At.thenRet (?_))
          refine At.ret1 (L1 := []) rfl (.tmp rfl .nil) (.refl _) (.refl _) ?_
          exact ⟨rfl, rfl⟩
        · exact absurd (by decide) c21
      · exact absurd rfl g17
/-- A number's text. -/
def quantT (x : Nat) : List UInt8 := 48 :: 120 :: (if dropB 48 (hexL (bytesOf x)) = [] then [48] else dropB 48 (hexL (bytesOf x)))
theorem FQuant_f {x : Nat} (hx : x < WW) : Fn Tryd.prog 25 #[wo x] [] [] (fun v L => v = str (quantT x) ∧ L = []) := by
  have hb : (bytesOf x).length ≤ 32 := by
    rw [length_bytesOf]
    have := bitLen_le.2 hx
    omega
  obtain ⟨t, ht⟩ : ∃ t, hexL (bytesOf x) = t := ⟨_, rfl⟩
  have htl := hexL_len (bytesOf x)
  rw [ht] at htl
  refine Fn.enter (vs := [wo x]) Tryd.func25 rfl rfl rfl ?_
  intro E R hR
  change At _ _ E [R] _
  refine At.seq fun K1 hk_1 => ?_
  refine At.region ?_
  refine op_box (nxla rfl) rfl rfl rfl (fun N1 b1 B1 => ?_)
  change Blk N1 b1 _ (u64s (wl x)) at B1
  refine op_assign (nxlf rfl) rfl rfl ?_
  refine At.opsNil ?_
  refine At.norm (hk_1 ?_)
  refine At.seq fun K2 hk_2 => ?_
  refine At.region ?_
  refine op_loadAggB (ds := u64s (wl x)) (nxlf rfl) ag46 rfl B1 (by first | (rw [List.drop_zero, List.take_of_length_le (by first | (simp; done) | (simp; omega))]; done) | rfl) (by first | (simp; done) | (simp; omega)) mem0 rfl ?_
  refine op_callA (nxla rfl) (.cons rfl .nil) (WShort_w hx) Tryd.func54 rfl rfl (by simp) rfl ?_
  rintro v5 L5 ⟨N5, a5, c5, rfl, rfl, r5⟩
  change At _ _ _ [N5, N1, R] _
  refine op_callA (nxla rfl) (.cons rfl .nil) (FText_f r5.rsl (by omega)) Tryd.func9 rfl rfl (by simp) rfl ?_
  rintro v6 L6 ⟨rfl, rfl⟩
  change At _ _ _ [N5, N1, R] _
  refine op_callA (nxla rfl) (.cons rfl (.cons rfl .nil)) (FTrimP_f (l := hexT (bytesOf x)) (p := [48, 120]) (by rw [hexT_len]; show 2 ≤ _; omega) rfl) Tryd.func53 rfl rfl (by simp) rfl ?_
  rintro v7 L7 ⟨rfl, rfl⟩
  change At _ _ _ [N5, N1, R] _
  rw [show (hexT (bytesOf x)).drop ([48, 120] : List UInt8).length = t from by rw [← ht]; rfl]
  refine op_callA (nxla rfl) (.cons rfl (.cons rfl .nil)) (FTrimL_f t) Tryd.func52 rfl rfl (by simp) rfl ?_
  rintro v8 L8 ⟨rfl, rfl⟩
  change At _ _ _ [N5, N1, R] _
  refine op_assign (nxlf rfl) rfl rfl ?_
  refine At.opsNil ?_
  refine At.norm (hk_2 ?_)
  refine At.seq fun K3 hk_3 => ?_
  refine At.seq fun K4 hk_4 => ?_
  refine At.region ?_
  refine op_move (nxlf rfl) rfl rfl ?_
  refine op_eqS (b := []) (nxlf rfl) rfl rfl rfl ?_
  refine At.opsNil ?_
  refine At.norm (hk_4 ?_)
  refine At.condP rfl (fun c10 => ?_) (fun c10 => ?_)
  · refine At.region ?_
    refine op_assign (nxlf rfl) rfl rfl ?_
    refine At.opsNil ?_
    refine At.norm (hk_3 ?_)
    refine At.seq fun K5 hk_5 => ?_
    refine At.region ?_
    refine op_move (nxlf rfl) rfl rfl ?_
    refine op_addS (a := [48, 120]) (nxlf rfl) rfl rfl (by (have := dropB_len 48 t; first | (simp; done) | (simp; omega))) rfl ?_
    refine op_assign (nxlf rfl) rfl rfl ?_
    refine At.opsNil ?_
    refine At.norm (hk_5 ?_)
    refine At.ret (?_)
    refine At.sub (L' := [R]) (.cons _ (.cons _ (.cons_cons _ (.slnil)))) ?_
    refine At.ret1 (L1 := []) rfl (.tmp rfl .nil) (.refl _) (.refl _) ?_
    exact ⟨by rw [quantT, ht, if_pos c10]; rfl, rfl⟩
  · refine At.skip ?_
    refine At.norm (hk_3 ?_)
    refine At.seq fun K6 hk_6 => ?_
    refine At.region ?_
    refine op_move (nxlf rfl) rfl rfl ?_
    refine op_addS (a := [48, 120]) (nxlf rfl) rfl rfl (by (have := dropB_len 48 t; first | (simp; done) | (simp; omega))) rfl ?_
    refine op_assign (nxlf rfl) rfl rfl ?_
    refine At.opsNil ?_
    refine At.norm (hk_6 ?_)
    refine At.ret (?_)
    refine At.sub (L' := [R]) (.cons _ (.cons _ (.cons_cons _ (.slnil)))) ?_
    refine At.ret1 (L1 := []) rfl (.tmp rfl .nil) (.refl _) (.refl _) ?_
    exact ⟨by rw [quantT, ht, if_neg c10]; rfl, rfl⟩
end Go.Proofs.YtlkjfbfenpkmhaaDoor
/- The engine: structs of two ints compared. For whatever program. No condition. -/
namespace Go.Proofs.YtlkjfbfenpkmhaaDoor
set_option linter.unusedVariables false
set_option linter.unusedSimpArgs false
open Go Go.RowKit
/-- A struct of two ints with names of their own. -/
def pairInts (P : Program) (t : TypeId) : Bool := !P.eqGuardType P.depth t && !P.stoodInHeld t && match (P.fieldsOf t).toList with
  | [f, g] => (match P.underlying f.type with | some (.int .i64) => true | _ => false) && (match P.underlying g.type with | some (.int .i64) => true | _ => false) && decide (f.offset = 0) && decide (g.offset = 1) && decide (f.name ≠ "_") && decide (g.name ≠ "_")
  | _ => false
theorem i64_of {P : Program} {t : TypeId} (h : (match P.underlying t with | some (.int .i64) => true | _ => false) = true) : P.underlying t = some (.int .i64) := by
  split at h
  · assumption
  · cases h
theorem pairInts_spec {P : Program} {t : TypeId} (h : pairInts P t = true) : P.eqGuardType P.depth t = false ∧ P.stoodInHeld t = false ∧ ∃ f g, (P.fieldsOf t).toList = [f, g] ∧ P.underlying f.type = some (.int .i64) ∧ P.underlying g.type = some (.int .i64) ∧ f.offset = 0 ∧ g.offset = 1 ∧ f.name ≠ "_" ∧ g.name ≠ "_" := by
  unfold pairInts at h
  split at h
  · rename_i f g e
    simp only [Bool.and_eq_true, Bool.not_eq_true', decide_eq_true_eq] at h
    exact ⟨h.1.1, h.1.2, f, g, e, i64_of h.2.1.1.1.1.1, i64_of h.2.1.1.1.1.2, h.2.1.1.1.2, h.2.1.1.2, h.2.1.2, h.2.2⟩
  · simp at h
theorem pair_eq {P : Program} {t : TypeId} (h : pairInts P t = true) (ht : P.underlying t = some (.struct (P.fieldsOf t))) (a b c e : Int) (w : World) : (Op.equalIn 10000 t (.agg #[.int .i64 a, .int .i64 b]) (.agg #[.int .i64 c, .int .i64 e])).run P w = .ok (decide (a = c ∧ b = e)) w := by
  obtain ⟨_, h2, f, g, hf, u1, u2, o1, o2, n1, n2⟩ := pairInts_spec h
  rw [run_equalIn_struct w 9999 t _ _ ht h2, hf]
  have p : ∀ (t' : TypeId) (u : P.underlying t' = some (.int .i64)) (x y : Int), (Op.equalIn 9999 t' (.int .i64 x) (.int .i64 y)).run P w = .ok (x == y) w := fun t' u x y => run_equalIn_int w 9998 t' .i64 .i64 x y u
  have q : ∀ (t' : TypeId) (u : P.underlying t' = some (.int .i64)) (x y : Int) (o : Nat) (z : Int) (ho : (#[Value.int .i64 x, Value.int .i64 y] : Array Value)[o]? = some (.int .i64 z)), (part t' #[.int .i64 x, .int .i64 y] o).run P w = .ok (.int .i64 z) w := fun t' u x y o z ho => by
    simp [part, isAgg, Go.run_underlying u, ho]
  have q1 := q _ u1 a b 0 a rfl
  have q2 := q _ u1 c e 0 c rfl
  have q3 := q _ u2 a b 1 b rfl
  have q4 := q _ u2 c e 1 e rfl
  simp only [Op.eqFields, if_pos n1, if_pos n2, Sem.run_bind, o1, o2, q1, q2, Result.andThen_ok, p _ u1]
  by_cases e1 : a = c
  · subst e1
    by_cases e2 : b = e
    · subst e2; simp [q3, p _ u2]
    · simp [e2, q3, q4, p _ u2]
  · simp [e1]
section
variable {P : Program} {n : Nat} {l : List (Nat × Value)} {E : World} {L Ls : List Heaplet} {X Y : Act → World → Prop} {d : Nat} {t t' ty : TypeId} {x y : Operand} {a b c e : Int}
theorem op_eqP {pos : _} {aft : _} {g : _} (s : NxF P n l E L Ls ⟨some d, .binOp .eql t x y t', ty, pos, aft, g⟩ X Y) (hp : pairInts P t = true) (ht : P.underlying t = some (.struct (P.fieldsOf t))) (hx : ev l x = some (.agg #[.int .i64 a, .int .i64 b])) (hy : ev l y = some (.agg #[.int .i64 c, .int .i64 e])) (hn : Nat.ble (d + 1) n = true)
    (h : At n ((d, .bool (decide (a = c ∧ b = e))) :: l) E L Y) : At n l E L X :=
  op_bin s hx hy (fun w => eqGuard_agg (pairInts_spec hp).1 w) (fun w => by
    rw [run_eql_struct, pair_eq hp ht]; rfl) hn h
theorem op_neP {pos : _} {aft : _} {g : _} (s : NxF P n l E L Ls ⟨some d, .binOp .neq t x y t', ty, pos, aft, g⟩ X Y) (hp : pairInts P t = true) (ht : P.underlying t = some (.struct (P.fieldsOf t))) (hx : ev l x = some (.agg #[.int .i64 a, .int .i64 b])) (hy : ev l y = some (.agg #[.int .i64 c, .int .i64 e])) (hn : Nat.ble (d + 1) n = true)
    (h : At n ((d, .bool (!decide (a = c ∧ b = e))) :: l) E L Y) : At n l E L X :=
  op_bin s hx hy (fun w => eqGuard_agg (pairInts_spec hp).1 w) (fun w => by
    rw [run_neq_struct, pair_eq hp ht]; rfl) hn h
end
end Go.Proofs.YtlkjfbfenpkmhaaDoor
/- quarrylaw04.wakes. No condition. -/
namespace Go.Proofs.YtlkjfbfenpkmhaaDoor
set_option linter.unusedVariables false
set_option linter.unusedSimpArgs false
open Go Go.RowKit
theorem WkBytes_f : Fn Tryd.prog 11 #[str [48, 120, 48, 48, 102, 70]] [] [] (fun v L => ∃ M a c, v = .tuple #[.slice a 2 c, faultV 0 0] ∧ L = [M] ∧ Row M 5 1 a 2 c (u8s [0, 255])) := by
  have h := FBytes_f [48, 120, 48, 48, 102, 70] (by decide)
  rw [show bytesR [48, 120, 48, 48, 102, 70] = ([0, 255], 0, 0) by decide +kernel] at h
  exact h
theorem WkNumber_f : Fn Tryd.prog 17 #[str [48, 120, 49, 102]] [] [] (fun v L => v = .tuple #[wo 31, faultV 0 0] ∧ L = []) := by
  have h := FNumber_f [48, 120, 49, 102] (by decide)
  rw [show numR [48, 120, 49, 102] = (31, 0, 0) by decide +kernel] at h
  exact h
theorem WkText_f {N : Heaplet} {a : Option Addr} {c : Nat} (h : RSl N 1 a 2 c (u8s [0, 255])) : Fn Tryd.prog 9 #[.slice a 2 c] [] [N] (fun v L => v = str [48, 120, 48, 48, 102, 102] ∧ L = []) := by
  have := FText_f h (by decide)
  rw [show hexT [0, 255] = [48, 120, 48, 48, 102, 102] by decide +kernel] at this
  exact this
theorem WkQuant_f : Fn Tryd.prog 25 #[.agg #[.int .u64 255, .int .u64 0, .int .u64 0, .int .u64 0]] [] [] (fun v L => v = str [48, 120, 102, 102] ∧ L = []) := by
  have h := FQuant_f (x := (255 : UInt64).toNat) (by decide)
  rw [wo_small, show quantT (255 : UInt64).toNat = [48, 120, 102, 102] by decide +kernel] at h
  exact h
set_option maxRecDepth 100000 in
theorem HWakes_f : Fn Tryd.prog 10 #[] [] [] (fun v L => v = .bool true ∧ L = []) := by
  refine Fn.enter (vs := []) Tryd.func10 rfl rfl rfl ?_
  intro E R hR
  change At _ _ E [R] _
  refine At.seq fun K1 hk_1 => ?_
  refine At.region ?_
  refine op_assign (nxlf rfl) rfl rfl ?_
  refine At.opsNil ?_
  refine At.norm (hk_1 ?_)
  refine At.seq fun K2 hk_2 => ?_
  refine At.region ?_
  refine op_callA (nxla rfl) (.cons rfl .nil) (WkBytes_f) Tryd.func11 rfl rfl (by simp) rfl ?_
  rintro v6 L6 ⟨N6, a6, c6, rfl, rfl, r6⟩
  change At _ _ _ [N6, R] _
  refine op_move (nxlf rfl) rfl rfl ?_
  refine op_extract (nxlf rfl) rfl rfl rfl ?_
  refine op_extract (nxlf rfl) rfl rfl rfl ?_
  refine op_alloc (nxla rfl) ze30 rfl (fun N2 b2 B2 => ?_)
  change Blk N2 b2 _ [.int .i64 0, .int .i64 0] at B2
  refine op_assign (nxlf rfl) rfl rfl ?_
  refine op_store (nxl rfl) sz30 rfl rfl rfl rfl rfl B2 (by simp) sel0 (fun N2 B2 => ?_)
  simp only [setL, List.set] at B2
  refine At.opsNil ?_
  refine At.norm (hk_2 ?_)
  refine At.seq fun K3 hk_3 => ?_
  refine At.region ?_
  refine op_callA (nxla rfl) (.cons rfl .nil) (WkNumber_f) Tryd.func17 rfl rfl (by simp) rfl ?_
  rintro v10 L10 ⟨rfl, rfl⟩
  change At _ _ _ [N2, N6, R] _
  refine op_move (nxlf rfl) rfl rfl ?_
  refine op_extract (nxlf rfl) rfl rfl rfl ?_
  refine op_extract (nxlf rfl) rfl rfl rfl ?_
  refine op_alloc (nxla rfl) ze46 rfl (fun N3 b3 B3 => ?_)
  change Blk N3 b3 _ [.int .u64 0, .int .u64 0, .int .u64 0, .int .u64 0] at B3
  refine op_alloc (nxla rfl) ze30 rfl (fun N4 b4 B4 => ?_)
  change Blk N4 b4 _ [.int .i64 0, .int .i64 0] at B4
  refine op_store (nxl rfl) sz46 rfl rfl rfl rfl rfl B3 (by simp) sel1 (fun N3 B3 => ?_)
  rw [setL_whole (by simp)] at B3
  refine op_store (nxl rfl) sz30 rfl rfl rfl rfl rfl B4 (by simp) sel1 (fun N4 B4 => ?_)
  simp only [setL, List.set] at B4
  refine At.opsNil ?_
  refine At.norm (hk_3 ?_)
  refine At.seq fun K4 hk_4 => ?_
  refine At.region ?_
  refine op_loadAggB (ds := [_, _]) (nxlf rfl) ag30 rfl B2 rfl rfl mem2 rfl ?_
  refine op_build (out := [.int .i64 0, .int .i64 0]) (nxlf rfl) ze30 pl30 .nil rfl rfl ?_
  refine op_eqP (nxlf rfl) (by kernel_rfl) (by kernel_rfl) rfl rfl rfl ?_
  change At _ ((15, .bool true) :: _) _ _ _
  refine op_move (nxlf rfl) rfl rfl ?_
  refine op_move (nxgf rfl rfl rfl rfl) rfl rfl ?_
  have s6 := r6.rsl
  refine op_str (nxgf rfl rfl rfl rfl) Tryd.underlying22 Tryd.underlying5 Tryd.underlying9 rfl (by assumption) (by first | exact mem0 | exact mem1 | exact mem2 | exact mem3 | exact mem4 | exact mem5 | exact mem6 | exact mem7 | exact mem8 | exact mem9) rfl ?_
  refine op_eqS (b := [0, 255]) (nxgf rfl rfl rfl rfl) rfl rfl rfl ?_
  change At _ ((19, .bool true) :: _) _ _ _
  refine op_pickT (nxlf rfl) rfl rfl rfl ?_
  refine op_move (nxlf rfl) rfl rfl ?_
  refine op_loadAggB (ds := [_, _]) (nxgf rfl rfl rfl rfl) ag30 rfl B4 rfl rfl mem0 rfl ?_
  refine op_loadAggB (ds := [_, _]) (nxgf rfl rfl rfl rfl) ag30 rfl B2 rfl rfl mem2 rfl ?_
  refine op_eqP (nxgf rfl rfl rfl rfl) (by kernel_rfl) (by kernel_rfl) rfl rfl rfl ?_
  change At _ ((24, .bool true) :: _) _ _ _
  refine op_pickT (nxlf rfl) rfl rfl rfl ?_
  refine op_move (nxlf rfl) rfl rfl ?_
  refine op_loadAggB (ds := u64s (wl 31)) (nxgf rfl rfl rfl rfl) ag46 rfl B3 (by first | (rw [List.drop_zero, List.take_of_length_le (by first | (simp; done) | (simp; omega))]; done) | rfl) (by first | (simp; done) | (simp; omega)) mem1 rfl ?_
  refine op_buildA (out := [_, .int .u64 0, .int .u64 0, .int .u64 0]) (nxgf rfl rfl rfl rfl) ze46 ae46 (.cons rfl .nil) rfl rfl ?_
  refine op_eqW (a := wl 31) (b := [31, 0, 0, 0]) (nxgf rfl rfl rfl rfl) ae46 Tryd.underlying44 (by kernel_rfl) rfl rfl rfl rfl rfl ?_
  change At _ ((29, .bool true) :: _) _ _ _
  refine op_pickT (nxlf rfl) rfl rfl rfl ?_
  refine op_move (nxlf rfl) rfl rfl ?_
  refine op_lit (nxga rfl rfl rfl rfl) Tryd.underlying22 ze5 sz5 (.cons rfl (.cons rfl .nil)) rfl rfl (by simp [Value.cells]) rfl rfl rfl (fun N32 a32 r32 => ?_)
  simp only [flatV, List.flatMap_cons, List.flatMap_nil, Value.cells, List.append_nil, List.cons_append, List.nil_append] at r32
  have s32 := r32.rsl
  change Row N32 _ 1 a32 2 2 (u8s [0, 255]) at r32
  have s32 := r32.rsl
  refine op_callA (nxga rfl rfl rfl rfl) (.cons rfl .nil) (WkText_f s32) Tryd.func9 rfl rfl (by simp) rfl ?_
  rintro v33 L33 ⟨rfl, rfl⟩
  change At _ _ _ [N32, N4, N3, N2, N6, R] _
  refine op_eqS (b := [48, 120, 48, 48, 102, 102]) (nxgf rfl rfl rfl rfl) rfl rfl rfl ?_
  change At _ ((34, .bool true) :: _) _ _ _
  refine op_pickT (nxlf rfl) rfl rfl rfl ?_
  refine op_move (nxlf rfl) rfl rfl ?_
  refine op_buildA (out := [_, .int .u64 0, .int .u64 0, .int .u64 0]) (nxgf rfl rfl rfl rfl) ze46 ae46 (.cons rfl .nil) rfl rfl ?_
  refine op_callA (nxga rfl rfl rfl rfl) (.cons rfl .nil) (WkQuant_f) Tryd.func25 rfl rfl (by simp) rfl ?_
  rintro v38 L38 ⟨rfl, rfl⟩
  change At _ _ _ [N32, N4, N3, N2, N6, R] _
  refine op_eqS (b := [48, 120, 102, 102]) (nxgf rfl rfl rfl rfl) rfl rfl rfl ?_
  change At _ ((39, .bool true) :: _) _ _ _
  refine op_pickT (nxlf rfl) rfl rfl rfl ?_
  refine op_assign (nxlf rfl) rfl rfl ?_
  refine At.opsNil ?_
  refine At.norm (hk_4 ?_)
  refine At.ret (?_)
  refine At.sub (L' := [R]) (.cons _ (.cons _ (.cons _ (.cons _ (.cons _ (.cons_cons _ (.slnil))))))) ?_
  refine At.ret1 (L1 := []) rfl (.tmp rfl .nil) (.refl _) (.refl _) ?_
  exact ⟨rfl, rfl⟩
end Go.Proofs.YtlkjfbfenpkmhaaDoor
