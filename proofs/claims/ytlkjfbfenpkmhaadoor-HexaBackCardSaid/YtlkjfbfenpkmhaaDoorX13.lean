/- Several texts in one: see the remarks ahead of each part. No condition but those told there. -/
import Derived.Test.YtlkjfbfenpkmhaaDoorX12
import Derived.Test.YtlkjfbfenpkmhaaDoorX6
import Derived.Test.YtlkjfbfenpkmhaaDoorX10
import Derived.Test.YtlkjfbfenpkmhaaDoorX7
import Derived.Test.YtlkjfbfenpkmhaaDoorX11
import Derived.Test.YtlkjfbfenpkmhaaDoorX4
import Derived.Test.YtlkjfbfenpkmhaaDoorX5
import Derived.Lib.ItoaNum
import Derived.Test.YtlkjfbfenpkmhaaDoorX9
import Derived.Laws.StructEq
import Derived.Stop.BytesEq
/- Words' bits joined: package word and the reference. No condition. -/
namespace Go.Proofs.YtlkjfbfenpkmhaaDoor
set_option linter.unusedVariables false
set_option linter.unusedSimpArgs false
open Go Go.RowKit
set_option maxRecDepth 100000 in
theorem WOr_f {x y : Nat} (hx : x < WW) (hy : y < WW) : Fn Tryd.prog 41 #[wo x, wo y] [] [] (fun v L => v = wo (x ||| y) ∧ L = []) := by
  have hlx := length_wl x
  have hly := length_wl y
  refine Fn.enter (vs := [wo x, wo y]) Tryd.func41 rfl rfl rfl ?_
  intro E R hR
  change At _ _ E [R] _
  refine At.seq fun K1 hk_1 => ?_
  refine At.region ?_
  refine op_box (nxla rfl) rfl rfl rfl (fun N2 b2 B2 => ?_)
  change Blk N2 b2 46 (u64s (pSt (x ||| y) x 0)) at B2
  refine op_box (nxla rfl) rfl rfl rfl (fun N3 b3 B3 => ?_)
  change Blk N3 b3 _ (u64s (wl y)) at B3
  refine op_alloc (nxla rfl) ze46 rfl (fun N4 b4 B4 => ?_)
  change Blk N4 b4 _ [.int .u64 0, .int .u64 0, .int .u64 0, .int .u64 0] at B4
  refine At.opsNil ?_
  refine At.norm (hk_1 ?_)
  refine At.seq fun K2 hk_2 => ?_
  refine At.seq fun K3 hk_3 => ?_
  refine At.region ?_
  refine op_move (nxlf rfl) rfl rfl ?_
  refine At.opsNil ?_
  refine At.norm (hk_3 ?_)
  refine At.block ?_
  refine At.perm sel3 ?_
  refine At.perm sel1 ?_
  refine At.perm sel2 ?_
  refine At.perm sel3 ?_
  refine At.loop (fun fr_ hp_ ms_ => ∃ (k : Nat) (N2 : Heaplet), fr_ = [(2, .pointer (some ⟨b2, 0, none⟩)), (3, .pointer (some ⟨b3, 0, none⟩)), (4, .pointer (some ⟨b4, 0, none⟩)), (6, .int .i64 (k : Int))] ∧ hp_ = [N2, N3, N4, R] ∧ 4 - k = ms_ ∧ (k ≤ 4) ∧ (Blk N2 b2 46 (u64s (pSt (x ||| y) x k)))) ?_ (.refl _) ⟨0, N2, rfl, rfl, rfl, by omega, B2⟩ ?_
  · exact .cons (by first | exact lkI rfl (by omega) | rfl) (.cons (by first | exact lkI rfl (by omega) | rfl) (.cons (by first | exact lkI rfl (by omega) | rfl) (.cons (by first | exact lkI rfl (by omega) | rfl) .nil)))
  rintro _ _ _ ⟨k, N2, rfl, rfl, rfl, hk, B2⟩
  have hwl := length_pSt (T := x ||| y) (x := x) hk
  refine At.seq fun K4 hk_4 => ?_
  refine At.region ?_
  refine op_lss (nxlf rfl) rfl rfl rfl ?_
  refine At.opsNil ?_
  refine At.norm (hk_4 ?_)
  refine At.seq fun K5 hk_5 => ?_
  refine At.condP rfl (fun c7 => ?_) (fun c7 => ?_)
  · refine At.skip ?_
    refine At.norm (hk_5 ?_)
    refine At.seq fun K6 hk_6 => ?_
    refine At.block ?_
    refine At.seq fun K7 hk_7 => ?_
    refine At.region ?_
    refine op_move (nxlf rfl) rfl rfl ?_
    refine op_assign (nxlf rfl) rfl rfl ?_
    refine At.opsNil ?_
    refine At.norm (hk_7 ?_)
    refine At.drawn [8] [0,1,2,3,4,5,6,7,8] (by kernel_rfl) (by kernel_rfl) ?_
    refine op_move (nxof rfl rfl rfl (by kernel_rfl)) rfl rfl ?_
    refine op_idxA (nxof rfl rfl rfl (by kernel_rfl)) ae46 rfl rfl (show _ = (((k : Nat)) : Int) from by omega) (by omega) rfl ?_
    refine op_loadB (nxof rfl rfl rfl (by kernel_rfl)) sc44 rfl B2 (by first | exact get64A (by omega) | rfl) mem0 rfl ?_
    rw [pSt_getD (by omega)]
    refine op_move (nxof rfl rfl rfl (by kernel_rfl)) rfl rfl ?_
    refine op_idxA (nxof rfl rfl rfl (by kernel_rfl)) ae46 rfl rfl (show _ = (((k : Nat)) : Int) from by omega) (by omega) rfl ?_
    refine op_loadB (nxof rfl rfl rfl (by kernel_rfl)) sc44 rfl B3 (by first | exact get64A (by omega) | rfl) mem1 rfl ?_
    refine op_orU (nxof rfl rfl rfl (by kernel_rfl)) rfl rfl rfl ?_
    refine op_idxA (nxof rfl rfl rfl (by kernel_rfl)) ae46 rfl rfl (show _ = (((k : Nat)) : Int) from by omega) (by omega) rfl ?_
    refine op_store (nxos rfl rfl rfl rfl) sz44 rfl rfl rfl rfl rfl B2 (by simp <;> omega) sel0 (fun N2 B2 => ?_)
    rw [set64A] at B2
    refine At.oneNil ?_
    refine At.inNorm ?_
    refine At.norm (hk_6 ?_)
    refine At.region ?_
    refine op_addI (nxlf rfl) rfl rfl (by omega) (by omega) rfl ?_
    refine op_move (nxlf rfl) rfl rfl ?_
    refine At.opsNil ?_
    refine At.norm ?_
    refine At.back ?_ (.refl _) ⟨k + 1, N2, rfl, rfl, rfl, by omega, by rw [pSt_succ (by omega) (or_limb x y (by omega))]; exact B2⟩ ?_
    · exact .cons (by first | exact lkI rfl (by omega) | rfl) (.cons (by first | exact lkI rfl (by omega) | rfl) (.cons (by first | exact lkI rfl (by omega) | rfl) (.cons (by first | exact lkI rfl (by omega) | rfl) .nil)))
    · omega
  · refine At.exit (At.thenExit (At.thenExit (At.inHit ?_)))
    refine At.norm (hk_2 ?_)
    refine At.seq fun K8 hk_8 => ?_
    refine At.region ?_
    have hk4 : k = 4 := by omega
    rw [hk4, pSt_all] at B2
    refine op_loadAggB (ds := u64s (wl (x ||| y))) (nxlf rfl) ag46 rfl B2 (by first | (rw [List.drop_zero, List.take_of_length_le (by first | (simp; done) | (simp; omega))]; done) | rfl) (by first | (simp; done) | (simp; omega)) mem0 rfl ?_
    refine op_store (nxl rfl) sz46 rfl rfl rfl rfl rfl B4 (by simp) sel2 (fun N4 B4 => ?_)
    rw [setL_whole (by simp)] at B4
    refine At.opsNil ?_
    refine At.norm (hk_8 ?_)
    refine At.ret (?_)
    refine At.sub (L' := [N4, R]) (.cons_cons _ (.cons _ (.cons _ (.cons_cons _ (.slnil))))) ?_
    refine At.ret1 (L1 := []) rfl (.cell rfl (res_agg (ds := u64s (wl (x ||| y))) ag46 B4 (by first | (rw [List.drop_zero, List.take_of_length_le (by first | (simp; done) | (simp; omega))]; done) | rfl) (by first | (simp; done) | (simp; omega)) mem0) .nil) (.cons _ (.refl _)) (.refl _) ?_
    exact ⟨rfl, rfl⟩
end Go.Proofs.YtlkjfbfenpkmhaaDoor
/- hexa.Number, hexa.just, hexa.Address, hexa.Hash. Condition: a text of at most 2^40 bytes. -/
namespace Go.Proofs.YtlkjfbfenpkmhaaDoor
set_option linter.unusedVariables false
set_option linter.unusedSimpArgs false
open Go Go.RowKit
theorem askN_f : AskP 40 askN := by
  intro N a n c l hs hn
  have hlen := hs.len8
  refine Fn.enter (vs := [.slice a n c]) Tryd.func40 rfl rfl rfl ?_
  intro E R hR
  have hs := hs.le (hR N (by simp))
  change At _ _ E [R] _
  refine At.seq fun K1 hk_1 => ?_
  refine At.region ?_
  refine op_assign (nxlf rfl) rfl rfl ?_
  refine At.opsNil ?_
  refine At.norm (hk_1 ?_)
  refine At.seq fun K2 hk_2 => ?_
  refine At.block ?_
  refine At.seq fun K3 hk_3 => ?_
  refine At.region ?_
  refine op_move (nxlf rfl) rfl rfl ?_
  refine op_lenS (nxlf rfl) se22 rfl rfl ?_
  refine op_eql (nxlf rfl) rfl rfl rfl ?_
  refine op_move (nxlf rfl) rfl rfl ?_
  refine At.partP (d := 7) rfl (fun g7 => ?_) (fun g7 => ?_)
  · refine op_move (nxgf rfl rfl rfl rfl) rfl rfl ?_
    refine op_idx1 (nxgf rfl rfl rfl rfl) se22 rfl rfl (by assumption) (show _ = ((0 : Nat) : Int) from rfl) (by omega) rfl ?_
    refine op_loadE (nxgf rfl rfl rfl rfl) sc5 rfl (by assumption) (by first | exact get8 (by omega) | exact get64 (by omega) | exact get32 (by omega)) (by first | exact mem0 | exact mem1 | exact mem2 | exact mem3 | exact mem4 | exact mem5 | exact mem6 | exact mem7 | exact mem8 | exact mem9) rfl ?_
    refine op_eql (nxgf rfl rfl rfl rfl) rfl rfl rfl ?_
    refine op_pickT (nxlf rfl) rfl rfl rfl ?_
    refine op_assign (nxlf rfl) rfl rfl ?_
    refine At.opsNil ?_
    refine At.norm (hk_3 ?_)
    refine At.condP rfl (fun c3 => ?_) (fun c3 => ?_)
    · refine At.seq fun K4 hk_4 => ?_
      refine At.region ?_
      refine op_assign (nxlf rfl) rfl rfl ?_
      refine At.opsNil ?_
      refine At.norm (hk_4 ?_)
      refine At.ret (At.inRet (At.thenRet (?_)))
      refine At.ret1 (L1 := []) rfl (.tmp rfl .nil) (.refl _) (.refl _) ?_
      first
        | exact ⟨by rw [askN, if_pos (by omega)]; rfl, rfl⟩
        | exact ⟨by rw [askN, if_neg (by omega), if_pos (by omega)]; rfl, rfl⟩
        | exact ⟨by rw [askN, if_neg (by omega), if_neg (by omega)]; rfl, rfl⟩
    · refine At.seq fun K5 hk_5 => ?_
      refine At.region ?_
      refine op_move (nxlf rfl) rfl rfl ?_
      refine op_lenS (nxlf rfl) se22 rfl rfl ?_
      refine op_eql (nxlf rfl) rfl rfl rfl ?_
      refine op_assign (nxlf rfl) rfl rfl ?_
      refine At.opsNil ?_
      refine At.norm (hk_5 ?_)
      refine At.condP rfl (fun c13 => ?_) (fun c13 => ?_)
      · refine At.seq fun K6 hk_6 => ?_
        refine At.region ?_
        refine op_assign (nxlf rfl) rfl rfl ?_
        refine At.opsNil ?_
        refine At.norm (hk_6 ?_)
        refine At.ret (At.inRet (At.thenRet (?_)))
        refine At.ret1 (L1 := []) rfl (.tmp rfl .nil) (.refl _) (.refl _) ?_
        first
          | exact ⟨by rw [askN, if_pos (by omega)]; rfl, rfl⟩
          | exact ⟨by rw [askN, if_neg (by omega), if_pos (by omega)]; rfl, rfl⟩
          | exact ⟨by rw [askN, if_neg (by omega), if_neg (by omega)]; rfl, rfl⟩
      · refine At.skip ?_
        refine At.inNorm ?_
        refine At.norm (hk_2 ?_)
        refine At.seq fun K7 hk_7 => ?_
        refine At.region ?_
        refine op_assign (nxlf rfl) rfl rfl ?_
        refine At.opsNil ?_
        refine At.norm (hk_7 ?_)
        refine At.ret (?_)
        refine At.ret1 (L1 := []) rfl (.tmp rfl .nil) (.refl _) (.refl _) ?_
        first
          | exact ⟨by rw [askN, if_pos (by omega)]; rfl, rfl⟩
          | exact ⟨by rw [askN, if_neg (by omega), if_pos (by omega)]; rfl, rfl⟩
          | exact ⟨by rw [askN, if_neg (by omega), if_neg (by omega)]; rfl, rfl⟩
  · refine op_skip rfl rfl rfl rfl rfl rfl rfl ?_
    refine op_skip rfl rfl rfl rfl rfl rfl rfl ?_
    refine op_skip rfl rfl rfl rfl rfl rfl rfl ?_
    refine op_skip rfl rfl rfl rfl rfl rfl rfl ?_
    refine op_pickF (nxlf rfl) rfl rfl rfl ?_
    refine op_assign (nxlf rfl) rfl rfl ?_
    refine At.opsNil ?_
    refine At.norm (hk_3 ?_)
    refine At.condF rfl ?_
    refine At.seq fun K8 hk_8 => ?_
    refine At.region ?_
    refine op_move (nxlf rfl) rfl rfl ?_
    refine op_lenS (nxlf rfl) se22 rfl rfl ?_
    refine op_eql (nxlf rfl) rfl rfl rfl ?_
    refine op_assign (nxlf rfl) rfl rfl ?_
    refine At.opsNil ?_
    refine At.norm (hk_8 ?_)
    refine At.condP rfl (fun c13 => ?_) (fun c13 => ?_)
    · refine At.seq fun K9 hk_9 => ?_
      refine At.region ?_
      refine op_assign (nxlf rfl) rfl rfl ?_
      refine At.opsNil ?_
      refine At.norm (hk_9 ?_)
      refine At.ret (At.inRet (At.thenRet (?_)))
      refine At.ret1 (L1 := []) rfl (.tmp rfl .nil) (.refl _) (.refl _) ?_
      first
        | exact ⟨by rw [askN, if_pos (by omega)]; rfl, rfl⟩
        | exact ⟨by rw [askN, if_neg (by omega), if_pos (by omega)]; rfl, rfl⟩
        | exact ⟨by rw [askN, if_neg (by omega), if_neg (by omega)]; rfl, rfl⟩
    · refine At.skip ?_
      refine At.inNorm ?_
      refine At.norm (hk_2 ?_)
      refine At.seq fun K10 hk_10 => ?_
      refine At.region ?_
      refine op_assign (nxlf rfl) rfl rfl ?_
      refine At.opsNil ?_
      refine At.norm (hk_10 ?_)
      refine At.ret (?_)
      refine At.ret1 (L1 := []) rfl (.tmp rfl .nil) (.refl _) (.refl _) ?_
      first
        | exact ⟨by rw [askN, if_pos (by omega)]; rfl, rfl⟩
        | exact ⟨by rw [askN, if_neg (by omega), if_pos (by omega)]; rfl, rfl⟩
        | exact ⟨by rw [askN, if_neg (by omega), if_neg (by omega)]; rfl, rfl⟩
theorem WOf4_f : Fn Tryd.prog 43 #[.int .u64 4] [] [] (fun v L => v = wo 4 ∧ L = []) := WOf_f 4
theorem amt4 : amt 4 = 4 := rfl
/-- A number, what is wrong, and where. -/
def NumP (z : Nat × Nat × Nat) (v : Value) (L : List Heaplet) : Prop := v = .tuple #[wo z.1, faultV (z.2.1 : Int) (z.2.2 : Int)] ∧ L = []
set_option maxRecDepth 100000 in
set_option maxHeartbeats 2000000 in
theorem FNumber_f (s : List UInt8) (hs : s.length ≤ 1099511627776) : Fn Tryd.prog 17 #[str s] [] [] (NumP (numR s)) := by
  obtain ⟨z, hz⟩ : ∃ z, readF askN 0 [] (runesOf s) = z := ⟨_, rfl⟩
  have hF := FRead_f Tryd.func40 rfl rfl askN_f s hs
  have hdl := readF_digits (ask := askN) (runesOf s) 0 [] (fun x hx => by cases hx)
  have hln := readF_len (ask := askN) (runesOf s) 0 []
  have h64 := readF_asked (runesOf s) 0 [] (by decide)
  have hrl := runes_len s
  obtain ⟨y, hy⟩ : ∃ y, numR s = y := ⟨_, rfl⟩
  have hR : y = if z.2.2 ≠ 0 then (0, z.2.2, z.2.1) else if z.1.length = 0 then (0, 2, z.2.1) else (numD z.1, 0, 0) := by rw [← hz, ← hy]; rfl
  rw [hz] at hF hdl hln h64
  rw [hy]
  obtain ⟨d, k, wy⟩ := z
  obtain ⟨W, wh, pl⟩ := y
  simp only at hdl hln h64 hR
  replace hF : Fn Tryd.prog 32 #[str s, .func (.func 40) #[] #[]] [] [] (fun v L => ∃ M a c, v = .tuple #[.slice a d.length c, .int .i64 (k : Int), faultV (wy : Int) ((if wy = 0 then 0 else k : Nat) : Int)] ∧ L = [M] ∧ RSl M 1 a d.length c (u8s d)) := hF
  have hdd := digit_lt hdl
  have hnl := numD_lt d hdd
  simp only [List.length_nil] at hln
  have hR0 : wy ≠ 0 → W = 0 ∧ wh = wy ∧ pl = k := fun h => by rw [if_pos h] at hR; injection hR with e1 e2; injection e2 with e2 e3; exact ⟨e1, e2, e3⟩
  have hR1 : wy = 0 → d.length = 0 → W = 0 ∧ wh = 2 ∧ pl = k := fun h h2 => by rw [if_neg (fun e => e h), if_pos h2] at hR; injection hR with e1 e2; injection e2 with e2 e3; exact ⟨e1, e2, e3⟩
  have hR2 : wy = 0 → ¬ d.length = 0 → W = numD d ∧ wh = 0 ∧ pl = 0 := fun h h2 => by rw [if_neg (fun e => e h), if_neg h2] at hR; injection hR with e1 e2; injection e2 with e2 e3; exact ⟨e1, e2, e3⟩
  refine Fn.enter (vs := [str s]) Tryd.func17 rfl rfl rfl ?_
  intro E R hR
  change At _ _ E [R] _
  refine At.seq fun K1 hk_1 => ?_
  refine At.region ?_
  refine op_alloc (nxla rfl) ze46 rfl (fun N2 b2 B2 => ?_)
  change Blk N2 b2 _ [.int .u64 0, .int .u64 0, .int .u64 0, .int .u64 0] at B2
  change Blk N2 b2 _ (u64s (wl 0)) at B2
  refine op_alloc (nxla rfl) ze30 rfl (fun N3 b3 B3 => ?_)
  change Blk N3 b3 _ [.int .i64 0, .int .i64 0] at B3
  change Blk N3 b3 _ [.int .i64 0, .int .i64 0] at B3
  refine At.opsNil ?_
  refine At.norm (hk_1 ?_)
  refine At.seq fun K2 hk_2 => ?_
  refine At.region ?_
  refine op_move (nxlf rfl) rfl rfl ?_
  refine op_callA (nxla rfl) (.cons rfl (.cons rfl .nil)) (hF) Tryd.func32 rfl rfl (by simp) rfl ?_
  rintro v12 L12 ⟨N12, a12, c12, rfl, rfl, s12⟩
  change At _ _ _ [N12, N3, N2, R] _
  refine op_move (nxlf rfl) rfl rfl ?_
  refine op_extract (nxlf rfl) rfl rfl rfl ?_
  refine op_extract (nxlf rfl) rfl rfl rfl ?_
  refine op_extract (nxlf rfl) rfl rfl rfl ?_
  refine op_alloc (nxla rfl) ze30 rfl (fun N6 b6 B6 => ?_)
  change Blk N6 b6 _ [.int .i64 0, .int .i64 0] at B6
  refine op_assign (nxlf rfl) rfl rfl ?_
  refine op_assign (nxlf rfl) rfl rfl ?_
  refine op_store (nxl rfl) sz30 rfl rfl rfl rfl rfl B6 (by simp) sel0 (fun N6 B6 => ?_)
  simp only [setL, List.set] at B6
  refine At.opsNil ?_
  refine At.norm (hk_2 ?_)
  refine At.seq fun K3 hk_3 => ?_
  refine At.block ?_
  refine At.seq fun K4 hk_4 => ?_
  refine At.region ?_
  refine op_fieldAddr (nxlf rfl) fl30_0 rfl rfl ?_
  refine op_loadB (nxlf rfl) sc28 rfl B6 (by first | rfl) mem0 rfl ?_
  refine op_neq (nxlf rfl) rfl rfl rfl ?_
  refine op_assign (nxlf rfl) rfl rfl ?_
  refine At.opsNil ?_
  refine At.norm (hk_4 ?_)
  refine At.condP rfl (fun c16 => ?_) (fun c16 => ?_)
  · refine At.knowT (d := 16) rfl c16 ?_
    obtain ⟨hW, hwh, hpl⟩ := hR0 (by omega)
    refine At.seq fun K5 hk_5 => ?_
    refine At.perm sel4 ?_
    refine At.perm sel2 ?_
    refine At.perm sel2 ?_
    refine At.perm sel4 ?_
    refine At.perm sel4 ?_
    refine At.drawnS [N6, N12, R] [3] [] [0,1,2,3] (by kernel_rfl) (by kernel_rfl) (.cons _ (.cons _ (.refl _))) ?_
    refine op_buildA (out := [.int .u64 0, .int .u64 0, .int .u64 0, .int .u64 0]) (nxsf rfl rfl rfl) ze46 ae46 .nil rfl rfl ?_
    refine op_loadAggB (ds := [_, _]) (nxsf rfl rfl rfl) ag30 rfl B6 rfl rfl mem0 rfl ?_
    refine op_store (nxsm rfl rfl rfl) sz46 rfl rfl rfl rfl rfl B2 (by simp) sel1 (fun N2 B2 => ?_)
    change Blk N2 b2 _ (u64s (wl 0)) at B2; rw [← hW] at B2
    refine At.moreS (Lst := [N6, N12, R]) (Lst' := [N6, N12, R]) (.refl _) (.cons _ (.cons _ (.refl _))) ?_
    refine op_store (nxsl rfl rfl rfl rfl) sz30 rfl rfl rfl rfl rfl B3 (by simp) sel1 (fun N3 B3 => ?_)
    simp only [setL, List.set] at B3
    refine At.sNil ?_
    refine At.norm (hk_5 ?_)
    refine At.ret (At.inRet (At.thenRet (?_)))
    refine At.sub (L' := [N3, N2, R]) (.cons_cons _ (.cons_cons _ (.cons _ (.cons _ (.cons_cons _ (.slnil)))))) ?_
    refine At.perm sel2 ?_
    refine At.perm sel1 ?_
    refine At.perm sel2 ?_
    refine At.retN (L1 := []) rfl (.cell rfl (res_agg (ds := u64s (wl W)) ag46 B2 (by first | (rw [List.drop_zero, List.take_of_length_le (by first | (simp; done) | (simp; omega))]; done) | rfl) (by first | (simp; done) | (simp; omega)) mem0) (.cell rfl (res_agg (ds := [_, _]) ag30 B3 rfl rfl mem1) .nil)) rfl (.cons _ (.cons _ (.refl _))) (.refl _) ?_
    exact ⟨by rw [hwh, hpl, if_neg (by omega)]; rfl, rfl⟩
  · refine At.knowF (d := 16) rfl c16 ?_
    refine At.seq fun K6 hk_6 => ?_
    refine At.region ?_
    refine op_move (nxlf rfl) rfl rfl ?_
    refine op_lenS (nxlf rfl) se22 rfl rfl ?_
    refine op_eql (nxlf rfl) rfl rfl rfl ?_
    refine op_assign (nxlf rfl) rfl rfl ?_
    refine At.opsNil ?_
    refine At.norm (hk_6 ?_)
    refine At.condP rfl (fun c22 => ?_) (fun c22 => ?_)
    · refine At.knowT (d := 22) rfl c22 ?_
      obtain ⟨hW, hwh, hpl⟩ := hR1 (by omega) (by omega)
      refine At.seq fun K7 hk_7 => ?_
      refine At.region ?_
      refine op_buildA (out := [.int .u64 0, .int .u64 0, .int .u64 0, .int .u64 0]) (nxlf rfl) ze46 ae46 .nil rfl rfl ?_
      refine op_move (nxlf rfl) rfl rfl ?_
      refine op_callA (nxla rfl) (.cons rfl (.cons rfl .nil)) (FFault_f 2 (k : Int)) Tryd.func34 rfl rfl (by simp) rfl ?_
      rintro v28 L28 ⟨rfl, rfl⟩
      change At _ _ _ [N6, N12, N3, N2, R] _
      refine op_store (nxl rfl) sz46 rfl rfl rfl rfl rfl B2 (by simp) sel3 (fun N2 B2 => ?_)
      change Blk N2 b2 _ (u64s (wl 0)) at B2; rw [← hW] at B2
      refine op_store (nxl rfl) sz30 rfl rfl rfl rfl rfl B3 (by simp) sel3 (fun N3 B3 => ?_)
      simp only [setL, List.set] at B3
      refine At.opsNil ?_
      refine At.norm (hk_7 ?_)
      refine At.ret (At.inRet (At.thenRet (?_)))
      refine At.sub (L' := [N3, N2, R]) (.cons_cons _ (.cons_cons _ (.cons _ (.cons _ (.cons_cons _ (.slnil)))))) ?_
      refine At.perm sel2 ?_
      refine At.perm sel1 ?_
      refine At.perm sel2 ?_
      refine At.retN (L1 := []) rfl (.cell rfl (res_agg (ds := u64s (wl W)) ag46 B2 (by first | (rw [List.drop_zero, List.take_of_length_le (by first | (simp; done) | (simp; omega))]; done) | rfl) (by first | (simp; done) | (simp; omega)) mem0) (.cell rfl (res_agg (ds := [_, _]) ag30 B3 rfl rfl mem1) .nil)) rfl (.cons _ (.cons _ (.refl _))) (.refl _) ?_
      exact ⟨by rw [hwh, hpl]; rfl, rfl⟩
    · refine At.knowF (d := 22) rfl c22 ?_
      obtain ⟨hW, hwh, hpl⟩ := hR2 (by omega) (by omega)
      refine At.skip ?_
      refine At.inNorm ?_
      refine At.norm (hk_3 ?_)
      refine At.seq fun K8 hk_8 => ?_
      refine At.region ?_
      refine op_alloc (nxla rfl) ze46 rfl (fun N7 b7 B7 => ?_)
      change Blk N7 b7 _ [.int .u64 0, .int .u64 0, .int .u64 0, .int .u64 0] at B7
      change Blk N7 b7 _ (u64s (wl 0)) at B7
      refine At.opsNil ?_
      refine At.norm (hk_8 ?_)
      refine At.seq fun K9 hk_9 => ?_
      refine At.seq fun K10 hk_10 => ?_
      refine At.region ?_
      refine op_move (nxlf rfl) rfl rfl ?_
      refine op_lenS (nxlf rfl) se22 rfl rfl ?_
      refine op_move (nxlf rfl) rfl rfl ?_
      refine At.opsNil ?_
      refine At.norm (hk_10 ?_)
      refine At.block ?_
      refine At.loop (fun fr_ hp_ ms_ => ∃ (i : Nat) (N7 : Heaplet), fr_ = [(2, .pointer (some ⟨b2, 0, none⟩)), (3, .pointer (some ⟨b3, 0, none⟩)), (7, .pointer (some ⟨b7, 0, none⟩)), (29, .slice a12 d.length c12), (30, .int .i64 (d.length : Int)), (31, .int .i64 (i : Int))] ∧ hp_ = [N7, N6, N12, N3, N2, R] ∧ d.length - i = ms_ ∧ (i ≤ d.length) ∧ (Blk N7 b7 46 (u64s (wl (numD (d.take i)))))) ?_ (.refl _) ⟨0, N7, rfl, rfl, rfl, Nat.zero_le _, B7⟩ ?_
      · exact .cons (by first | exact lkI rfl (by omega) | rfl) (.cons (by first | exact lkI rfl (by omega) | rfl) (.cons (by first | exact lkI rfl (by omega) | rfl) (.cons (by first | exact lkI rfl (by omega) | rfl) (.cons (by first | exact lkI rfl (by omega) | rfl) (.cons (by first | exact lkI rfl (by omega) | rfl) .nil)))))
      rintro _ _ _ ⟨i, N7, rfl, rfl, rfl, hi, B7⟩
      refine At.seq fun K11 hk_11 => ?_
      refine At.region ?_
      refine op_lss (nxlf rfl) rfl rfl rfl ?_
      refine At.opsNil ?_
      refine At.norm (hk_11 ?_)
      refine At.seq fun K12 hk_12 => ?_
      refine At.condP rfl (fun c32 => ?_) (fun c32 => ?_)
      · refine At.knowT (d := 32) rfl c32 ?_
        have hlt : i < d.length := by omega
        have hV := hnl i (by omega)
        have hp := hexPow64 (i := i) (by omega)
        have hxi := hdd i
        have hu8 : (UInt64.ofNat (d.getD i 0).toNat).toNat = (d.getD i 0).toNat := by rw [UInt64.toNat_ofNat']; omega
        have hVW : numD (d.take i) * 2 ^ amt 4 < WW := by rw [amt4]; show _ * 16 < 2 ^ 256; omega
        have hV0 : numD (d.take i) < WW := by show _ < 2 ^ 256; omega
        refine At.skip ?_
        refine At.norm (hk_12 ?_)
        refine At.seq fun K13 hk_13 => ?_
        refine At.block ?_
        refine At.seq fun K14 hk_14 => ?_
        refine At.region ?_
        refine op_idx1 (nxlf rfl) se22 rfl rfl s12 (by first | rfl | exact (Int.toNat_of_nonneg (by omega)).symm) (by omega) rfl ?_
        refine op_loadE (nxlf rfl) sc5 rfl s12 (by first | exact get8 (by omega) | exact get64 (by omega) | exact get32 (by omega)) (by first | exact mem0 | exact mem1 | exact mem2 | exact mem3 | exact mem4 | exact mem5 | exact mem6 | exact mem7 | exact mem8 | exact mem9) rfl ?_
        refine op_assign (nxlf rfl) rfl rfl ?_
        refine At.opsNil ?_
        refine At.norm (hk_14 ?_)
        refine At.drawn [5,6,7] [1,3,4,0,2,5,6,7] (by kernel_rfl) (by kernel_rfl) ?_
        refine op_loadAggB (ds := u64s (wl (numD (d.take i)))) (nxof rfl rfl rfl (by kernel_rfl)) ag46 rfl B7 (by first | (rw [List.drop_zero, List.take_of_length_le (by first | (simp; done) | (simp; omega))]; done) | rfl) (by first | (simp; done) | (simp; omega)) mem0 rfl ?_
        refine op_move (nxof rfl rfl rfl (by kernel_rfl)) rfl rfl ?_
        refine op_conv64 (nxof rfl rfl rfl (by kernel_rfl)) (und_some Tryd.underlying5) Tryd.underlying44 rfl (by first | rfl | exact (Int.toNat_of_nonneg (by omega)).symm) rfl ?_
        refine op_callA (nxoa rfl rfl rfl) (.cons rfl .nil) (WOf4_f) Tryd.func43 rfl rfl (by simp) rfl ?_
        rintro v35 L35 ⟨rfl, rfl⟩
        change At _ _ _ [N7, N6, N12, N3, N2, R] _
        refine op_callA (nxoa rfl rfl rfl) (.cons rfl (.cons rfl .nil)) (WShl_f (m := 4) (x := numD (d.take i)) (by decide) hV0) Tryd.func42 rfl rfl (by simp) rfl ?_
        rintro v37 L37 ⟨rfl, rfl⟩
        change At _ _ _ [N7, N6, N12, N3, N2, R] _
        refine op_callA (nxosa rfl rfl rfl rfl) (.cons rfl .nil) (WOf_f (UInt64.ofNat (d.getD i 0).toNat)) Tryd.func43 rfl rfl (by simp) rfl ?_
        rintro v40 L40 ⟨rfl, rfl⟩
        change At _ _ _ [N7, N6, N12, N3, N2, R] _
        rw [hu8]
        refine op_callA (nxosa rfl rfl rfl rfl) (.cons rfl (.cons rfl .nil)) (WOr_f (x := numD (d.take i) * 2 ^ amt 4) (y := (d.getD i 0).toNat) hVW (Nat.lt_of_lt_of_le hxi (by decide))) Tryd.func41 rfl rfl (by simp) rfl ?_
        rintro v41 L41 ⟨rfl, rfl⟩
        change At _ _ _ [N7, N6, N12, N3, N2, R] _
        rw [amt4, show (2 : Nat) ^ 4 = 16 from rfl, or_digit _ hxi, ← numD_take hlt]
        refine op_store (nxos rfl rfl rfl rfl) sz46 rfl rfl rfl rfl rfl B7 (by simp) sel0 (fun N7 B7 => ?_)
        rw [setL_whole (by simp)] at B7
        refine At.oneNil ?_
        refine At.inNorm ?_
        refine At.norm (hk_13 ?_)
        refine At.region ?_
        refine op_addI (nxlf rfl) rfl rfl (by omega) (by omega) rfl ?_
        refine op_move (nxlf rfl) rfl rfl ?_
        refine At.opsNil ?_
        refine At.norm ?_
        refine At.back ?_ (.refl _) ⟨i + 1, N7, rfl, rfl, rfl, by omega, B7⟩ ?_
        · exact .cons (by first | exact lkI rfl (by omega) | rfl) (.cons (by first | exact lkI rfl (by omega) | rfl) (.cons (by first | exact lkI rfl (by omega) | rfl) (.cons (by first | exact lkI rfl (by omega) | rfl) (.cons (by first | exact lkI rfl (by omega) | rfl) (.cons (by first | exact lkI rfl (by omega) | rfl) .nil)))))
        · omega
      · refine At.knowF (d := 32) rfl c32 ?_
        refine At.exit (At.thenExit (At.thenExit (At.inHit ?_)))
        refine At.norm (hk_9 ?_)
        refine At.seq fun K15 hk_15 => ?_
        refine At.region ?_
        rw [show i = d.length by omega, List.take_length] at B7
        refine op_loadAggB (ds := u64s (wl (numD d))) (nxlf rfl) ag46 rfl B7 (by first | (rw [List.drop_zero, List.take_of_length_le (by first | (simp; done) | (simp; omega))]; done) | rfl) (by first | (simp; done) | (simp; omega)) mem0 rfl ?_
        refine op_build (out := [.int .i64 0, .int .i64 0]) (nxlf rfl) ze30 pl30 .nil rfl rfl ?_
        refine op_store (nxl rfl) sz46 rfl rfl rfl rfl rfl B2 (by simp) sel4 (fun N2 B2 => ?_)
        rw [setL_whole (by simp), ← hW] at B2
        refine op_store (nxl rfl) sz30 rfl rfl rfl rfl rfl B3 (by simp) sel4 (fun N3 B3 => ?_)
        simp only [setL, List.set] at B3
        refine At.opsNil ?_
        refine At.norm (hk_15 ?_)
        refine At.ret (?_)
        refine At.sub (L' := [N3, N2, R]) (.cons_cons _ (.cons_cons _ (.cons _ (.cons _ (.cons _ (.cons_cons _ (.slnil))))))) ?_
        refine At.perm sel2 ?_
        refine At.perm sel1 ?_
        refine At.perm sel2 ?_
        refine At.retN (L1 := []) rfl (.cell rfl (res_agg (ds := u64s (wl W)) ag46 B2 (by first | (rw [List.drop_zero, List.take_of_length_le (by first | (simp; done) | (simp; omega))]; done) | rfl) (by first | (simp; done) | (simp; omega)) mem0) (.cell rfl (res_agg (ds := [_, _]) ag30 B3 rfl rfl mem1) .nil)) rfl (.cons _ (.cons _ (.refl _))) (.refl _) ?_
        exact ⟨by rw [hwh, hpl]; rfl, rfl⟩
end Go.Proofs.YtlkjfbfenpkmhaaDoor
/- hexa.just, hexa.Address, hexa.Hash. Condition: a text of at most 2^40 bytes. -/
namespace Go.Proofs.YtlkjfbfenpkmhaaDoor
set_option linter.unusedVariables false
set_option linter.unusedSimpArgs false
open Go Go.RowKit
theorem all8x (l : List UInt8) : (u8s l).all (·.oneCell') = true := List.all_eq_true.2 (one_u8s l)
/-- So many bytes of a text; what is wrong, and where. -/
def justR (s : List UInt8) (n : Nat) : List UInt8 × Nat × Nat :=
  let z := bytesR s
  if z.2.1 ≠ 0 then ([], z.2.1, z.2.2) else if z.1.length ≠ n then ([], 6, 0) else z
theorem justR_len (s : List UInt8) (n : Nat) : (justR s n).1.length ≤ n := by
  unfold justR
  by_cases h : (bytesR s).2.1 ≠ 0
  · simp only [if_pos h]; exact Nat.zero_le _
  · by_cases h2 : (bytesR s).1.length ≠ n
    · simp only [if_neg h, if_pos h2]; exact Nat.zero_le _
    · simp only [if_neg h, if_neg h2]; omega
theorem FJust_f (s : List UInt8) (hs : s.length ≤ 1099511627776) (n : Nat) : Fn Tryd.prog 48 #[str s, .int .i64 (n : Int)] [] [] (BytP (justR s n)) := by
  have hF := FBytes_f s hs
  have hR : justR s n = if (bytesR s).2.1 ≠ 0 then ([], (bytesR s).2.1, (bytesR s).2.2) else if (bytesR s).1.length ≠ n then ([], 6, 0) else bytesR s := rfl
  rw [hR]
  generalize bytesR s = z at hF ⊢
  obtain ⟨d, wy, pl⟩ := z
  simp only
  replace hF : Fn Tryd.prog 11 #[str s] [] [] (fun v L => ∃ M a c, v = .tuple #[.slice a d.length c, faultV (wy : Int) (pl : Int)] ∧ L = [M] ∧ Row M 5 1 a d.length c (u8s d)) := hF
  refine Fn.enter (vs := [str s, .int .i64 (n : Int)]) Tryd.func48 rfl rfl rfl ?_
  intro E R hR
  change At _ _ E [R] _
  refine At.seq fun K1 hk_1 => ?_
  refine At.region ?_
  refine op_assign (nxlf rfl) rfl rfl ?_
  refine op_alloc (nxla rfl) ze30 rfl (fun N5 b5 B5 => ?_)
  change Blk N5 b5 _ [.int .i64 0, .int .i64 0] at B5
  change Blk N5 b5 _ [.int .i64 0, .int .i64 0] at B5
  refine At.opsNil ?_
  refine At.norm (hk_1 ?_)
  refine At.seq fun K2 hk_2 => ?_
  refine At.region ?_
  refine op_move (nxlf rfl) rfl rfl ?_
  refine op_callA (nxla rfl) (.cons rfl .nil) (hF) Tryd.func11 rfl rfl (by simp) rfl ?_
  rintro v10 L10 ⟨N10, a10, c10, rfl, rfl, r10⟩
  change At _ _ _ [N10, N5, R] _
  refine op_move (nxlf rfl) rfl rfl ?_
  refine op_extract (nxlf rfl) rfl rfl rfl ?_
  refine op_extract (nxlf rfl) rfl rfl rfl ?_
  refine op_alloc (nxla rfl) ze30 rfl (fun N7 b7 B7 => ?_)
  change Blk N7 b7 _ [.int .i64 0, .int .i64 0] at B7
  refine op_assign (nxlf rfl) rfl rfl ?_
  refine op_store (nxl rfl) sz30 rfl rfl rfl rfl rfl B7 (by simp) sel0 (fun N7 B7 => ?_)
  simp only [setL, List.set] at B7
  refine At.opsNil ?_
  refine At.norm (hk_2 ?_)
  refine At.seq fun K3 hk_3 => ?_
  refine At.block ?_
  refine At.seq fun K4 hk_4 => ?_
  refine At.region ?_
  refine op_fieldAddr (nxlf rfl) fl30_0 rfl rfl ?_
  refine op_loadB (nxlf rfl) sc28 rfl B7 (by first | rfl) mem0 rfl ?_
  refine op_neq (nxlf rfl) rfl rfl rfl ?_
  refine op_assign (nxlf rfl) rfl rfl ?_
  refine At.opsNil ?_
  refine At.norm (hk_4 ?_)
  refine At.condP rfl (fun c13 => ?_) (fun c13 => ?_)
  · refine At.knowT (d := 13) rfl c13 ?_
    refine At.seq fun K5 hk_5 => ?_
    refine At.drawn [2] [0,1,2] (by kernel_rfl) (by kernel_rfl) ?_
    refine op_loadAggB (ds := [_, _]) (nxof rfl rfl rfl (by kernel_rfl)) ag30 rfl B7 rfl rfl mem0 rfl ?_
    refine op_assign (nxof rfl rfl rfl (by kernel_rfl)) rfl rfl ?_
    refine op_store (nxos rfl rfl rfl rfl) sz30 rfl rfl rfl rfl rfl B5 (by simp) sel2 (fun N5 B5 => ?_)
    simp only [setL, List.set] at B5
    refine At.oneNil ?_
    refine At.norm (hk_5 ?_)
    refine At.ret (At.inRet (At.thenRet (?_)))
    refine At.empty ?_
    refine At.sub (L' := [nilH, N5, R]) (.cons_cons _ (.cons_cons _ (.cons _ (.cons _ (.cons_cons _ (.slnil)))))) ?_
    refine At.perm sel2 ?_
    refine At.perm sel1 ?_
    refine At.perm sel2 ?_
    refine At.retN (L1 := [nilH]) rfl (.tmp rfl (.cell rfl (res_agg (ds := [_, _]) ag30 B5 rfl rfl mem0) .nil)) rfl (.cons _ (.refl _)) (.refl _) ?_
    have hw : wy ≠ 0 := by omega
    rw [if_pos hw]
    exact ⟨nilH, none, 0, rfl, rfl, Row.nil _ _ _⟩
  · refine At.knowF (d := 13) rfl c13 ?_
    refine At.seq fun K6 hk_6 => ?_
    refine At.region ?_
    refine op_move (nxlf rfl) rfl rfl ?_
    refine op_lenS (nxlf rfl) se22 rfl rfl ?_
    refine op_move (nxlf rfl) rfl rfl ?_
    refine op_neq (nxlf rfl) rfl rfl rfl ?_
    refine op_assign (nxlf rfl) rfl rfl ?_
    refine At.opsNil ?_
    refine At.norm (hk_6 ?_)
    refine At.condP rfl (fun c18 => ?_) (fun c18 => ?_)
    · refine At.knowT (d := 18) rfl c18 ?_
      refine At.seq fun K7 hk_7 => ?_
      refine At.region ?_
      refine op_callA (nxla rfl) (.cons rfl (.cons rfl .nil)) (FFault_f 6 0) Tryd.func34 rfl rfl (by simp) rfl ?_
      rintro v23 L23 ⟨rfl, rfl⟩
      change At _ _ _ [N7, N10, N5, R] _
      refine op_assign (nxlf rfl) rfl rfl ?_
      refine op_store (nxl rfl) sz30 rfl rfl rfl rfl rfl B5 (by simp) sel2 (fun N5 B5 => ?_)
      simp only [setL, List.set] at B5
      refine At.opsNil ?_
      refine At.norm (hk_7 ?_)
      refine At.ret (At.inRet (At.thenRet (?_)))
      refine At.empty ?_
      refine At.sub (L' := [nilH, N5, R]) (.cons_cons _ (.cons_cons _ (.cons _ (.cons _ (.cons_cons _ (.slnil)))))) ?_
      refine At.perm sel2 ?_
      refine At.perm sel1 ?_
      refine At.perm sel2 ?_
      refine At.retN (L1 := [nilH]) rfl (.tmp rfl (.cell rfl (res_agg (ds := [_, _]) ag30 B5 rfl rfl mem0) .nil)) rfl (.cons _ (.refl _)) (.refl _) ?_
      have hw : ¬ wy ≠ 0 := by omega
      rw [if_neg hw, if_pos (show d.length ≠ n by omega)]
      exact ⟨nilH, none, 0, rfl, rfl, Row.nil _ _ _⟩
    · refine At.knowF (d := 18) rfl c18 ?_
      refine At.skip ?_
      refine At.inNorm ?_
      refine At.norm (hk_3 ?_)
      refine At.seq fun K8 hk_8 => ?_
      refine At.drawn [3] [0,1,2,3] (by kernel_rfl) (by kernel_rfl) ?_
      refine op_move (nxof rfl rfl rfl (by kernel_rfl)) rfl rfl ?_
      refine op_loadAggB (ds := [_, _]) (nxof rfl rfl rfl (by kernel_rfl)) ag30 rfl B7 rfl rfl mem0 rfl ?_
      refine op_assign (nxof rfl rfl rfl (by kernel_rfl)) rfl rfl ?_
      refine op_store (nxos rfl rfl rfl rfl) sz30 rfl rfl rfl rfl rfl B5 (by simp) sel2 (fun N5 B5 => ?_)
      simp only [setL, List.set] at B5
      refine At.oneNil ?_
      refine At.norm (hk_8 ?_)
      refine At.ret (?_)
      refine At.sub (L' := [N5, N10, R]) (.cons_cons _ (.cons _ (.cons_cons _ (.cons_cons _ (.slnil))))) ?_
      refine At.retN (L1 := [N10]) rfl (.tmp rfl (.cell rfl (res_agg (ds := [_, _]) ag30 B5 rfl rfl mem0) .nil)) rfl (.cons _ (.refl _)) (.refl _) ?_
      have hw : ¬ wy ≠ 0 := by omega
      rw [if_neg hw, if_neg (show ¬ d.length ≠ n by omega)]
      exact ⟨N10, a10, c10, rfl, rfl, r10⟩
theorem copyN {n : Nat} {r : List UInt8} {o k : Nat} (ho : o = 0) (hk : k = r.length) (hr : r.length ≤ n) : (u8s (List.replicate n 0)).take o ++ (u8s r).take k ++ (u8s (List.replicate n 0)).drop (o + k) = u8s (r ++ List.replicate (n - r.length) 0) := by
  subst ho; subst hk
  rw [List.take_zero, List.nil_append, Nat.zero_add, List.take_of_length_le (by simp [u8s]), show u8s (List.replicate n 0) = List.replicate n (vb 0) from List.map_replicate, List.drop_replicate, u8s, u8s, List.map_append, List.map_replicate]
/-- An address, a hash out of a text. -/
def arrR (s : List UInt8) (n : Nat) : List UInt8 × Nat × Nat := ((justR s n).1 ++ List.replicate (n - (justR s n).1.length) 0, (justR s n).2)
theorem arrR_len (s : List UInt8) (n : Nat) : (arrR s n).1.length = n := by
  have := justR_len s n
  rw [arrR, List.length_append, List.length_replicate]; omega
def ArrP (z : List UInt8 × Nat × Nat) (v : Value) (L : List Heaplet) : Prop := v = .tuple #[.agg (u8s z.1).toArray, faultV (z.2.1 : Int) (z.2.2 : Int)] ∧ L = []
set_option maxRecDepth 100000 in
theorem FAddress_f (s : List UInt8) (hs : s.length ≤ 1099511627776) : Fn Tryd.prog 19 #[str s] [] [] (ArrP (arrR s 20)) := by
  have hF := FJust_f s hs 20
  have hl := justR_len s 20
  unfold arrR
  generalize justR s 20 = z at hF hl ⊢
  obtain ⟨d, wy, pl⟩ := z
  simp only at hl ⊢
  have hlz : (d ++ List.replicate (20 - d.length) 0).length = 20 := by rw [List.length_append, List.length_replicate]; omega
  replace hF : Fn Tryd.prog 48 #[str s, .int .i64 20] [] [] (fun v L => ∃ M a c, v = .tuple #[.slice a d.length c, faultV (wy : Int) (pl : Int)] ∧ L = [M] ∧ Row M 5 1 a d.length c (u8s d)) := hF
  refine Fn.enter (vs := [str s]) Tryd.func19 rfl rfl rfl ?_
  intro E R hR
  change At _ _ E [R] _
  refine At.seq fun K1 hk_1 => ?_
  refine At.region ?_
  refine op_alloc (nxla rfl) ze50 rfl (fun N2 b2 B2 => ?_)
  change Blk N2 b2 _ [.int .u8 0, .int .u8 0, .int .u8 0, .int .u8 0, .int .u8 0, .int .u8 0, .int .u8 0, .int .u8 0, .int .u8 0, .int .u8 0, .int .u8 0, .int .u8 0, .int .u8 0, .int .u8 0, .int .u8 0, .int .u8 0, .int .u8 0, .int .u8 0, .int .u8 0, .int .u8 0] at B2
  change Blk N2 b2 _ (u8s (List.replicate 20 0)) at B2
  refine op_alloc (nxla rfl) ze30 rfl (fun N3 b3 B3 => ?_)
  change Blk N3 b3 _ [.int .i64 0, .int .i64 0] at B3
  change Blk N3 b3 _ [.int .i64 0, .int .i64 0] at B3
  refine At.opsNil ?_
  refine At.norm (hk_1 ?_)
  refine At.seq fun K2 hk_2 => ?_
  refine At.region ?_
  refine op_alloc (nxla rfl) ze50 rfl (fun N4 b4 B4 => ?_)
  change Blk N4 b4 _ [.int .u8 0, .int .u8 0, .int .u8 0, .int .u8 0, .int .u8 0, .int .u8 0, .int .u8 0, .int .u8 0, .int .u8 0, .int .u8 0, .int .u8 0, .int .u8 0, .int .u8 0, .int .u8 0, .int .u8 0, .int .u8 0, .int .u8 0, .int .u8 0, .int .u8 0, .int .u8 0] at B4
  change Blk N4 b4 _ (u8s (List.replicate 20 0)) at B4
  refine At.opsNil ?_
  refine At.norm (hk_2 ?_)
  refine At.seq fun K3 hk_3 => ?_
  refine At.region ?_
  refine op_move (nxlf rfl) rfl rfl ?_
  refine op_callA (nxla rfl) (.cons rfl (.cons rfl .nil)) (hF) Tryd.func48 rfl rfl (by simp) rfl ?_
  rintro v9 L9 ⟨N9, a9, c9, rfl, rfl, r9⟩
  change At _ _ _ [N9, N4, N3, N2, R] _
  refine op_move (nxlf rfl) rfl rfl ?_
  refine op_extract (nxlf rfl) rfl rfl rfl ?_
  refine op_extract (nxlf rfl) rfl rfl rfl ?_
  refine op_alloc (nxla rfl) ze30 rfl (fun N6 b6 B6 => ?_)
  change Blk N6 b6 _ [.int .i64 0, .int .i64 0] at B6
  refine op_assign (nxlf rfl) rfl rfl ?_
  refine op_store (nxl rfl) sz30 rfl rfl rfl rfl rfl B6 (by simp) sel0 (fun N6 B6 => ?_)
  simp only [setL, List.set] at B6
  refine At.opsNil ?_
  refine At.norm (hk_3 ?_)
  refine At.seq fun K4 hk_4 => ?_
  refine At.region ?_
  have s9 := r9.rsl
  refine op_sliceA (nxlf rfl) ae50 rfl .none .none .none (by omega) (by omega) (by omega) (by simp) rfl ?_
  refine op_move (nxlf rfl) rfl rfl ?_
  refine op_copyB (nxl rfl) se22 rfl rfl B4 s9 (by first | exact mem0 | exact mem1 | exact mem2 | exact mem3 | exact mem4 | exact mem5 | exact mem6 | exact mem7 | exact mem8 | exact mem9) (by first | exact one_u8s _ | exact one_u64s _ | exact one_u32s _ | (intro u hu; simp at hu; subst hu; rfl)) (by simp [u8s]; omega) sel2 rfl (fun N4 B4 => ?_)
  rw [copyN rfl (by omega) (by omega)] at B4
  refine At.opsNil ?_
  refine At.norm (hk_4 ?_)
  refine At.seq fun K5 hk_5 => ?_
  refine At.perm sel5 ?_
  refine At.perm sel2 ?_
  refine At.perm sel2 ?_
  refine At.perm sel5 ?_
  refine At.perm sel5 ?_
  refine At.perm sel5 ?_
  refine At.drawnS [N4, N6, R] [3] [] [0,1,2,3] (by kernel_rfl) (by kernel_rfl) (.cons _ (.cons _ (.cons _ (.refl _)))) ?_
  refine op_loadAggB (ds := u8s (d ++ List.replicate (20 - d.length) 0)) (nxsf rfl rfl rfl) ag50 rfl B4 (by first | (rw [List.drop_zero, List.take_of_length_le (by first | (simp; done) | (simp; omega))]; done) | rfl) (by first | (simp; done) | (simp; omega)) mem0 rfl ?_
  refine op_loadAggB (ds := [_, _]) (nxsf rfl rfl rfl) ag30 rfl B6 rfl rfl mem1 rfl ?_
  refine op_store (nxsm rfl rfl rfl) sz50 rfl rfl rfl (by simp [u8s]; omega) (all8x _) B2 (by simp [u8s]; omega) sel2 (fun N2 B2 => ?_)
  rw [setL_whole (by simp [u8s]; omega)] at B2
  refine At.moreS (Lst := [N4, N6, R]) (Lst' := [N4, N6, R]) (.refl _) (.cons _ (.cons _ (.cons _ (.refl _)))) ?_
  refine op_store (nxsl rfl rfl rfl rfl) sz30 rfl rfl rfl rfl rfl B3 (by simp) sel2 (fun N3 B3 => ?_)
  simp only [setL, List.set] at B3
  refine At.sNil ?_
  refine At.norm (hk_5 ?_)
  refine At.ret (?_)
  refine At.sub (L' := [N3, N2, R]) (.cons_cons _ (.cons_cons _ (.cons _ (.cons _ (.cons _ (.cons_cons _ (.slnil))))))) ?_
  refine At.perm sel2 ?_
  refine At.perm sel1 ?_
  refine At.perm sel2 ?_
  refine At.retN (L1 := []) rfl (.cell rfl (res_agg (ds := u8s (d ++ List.replicate (20 - d.length) 0)) ag50 B2 (by rw [List.drop_zero, List.take_of_length_le (by simp [u8s]; omega)]) (by simp [u8s]; omega) mem0) (.cell rfl (res_agg (ds := [_, _]) ag30 B3 rfl rfl mem1) .nil)) rfl (.cons _ (.cons _ (.refl _))) (.refl _) ?_
  exact ⟨rfl, rfl⟩
set_option maxRecDepth 100000 in
theorem FHash_f (s : List UInt8) (hs : s.length ≤ 1099511627776) : Fn Tryd.prog 21 #[str s] [] [] (ArrP (arrR s 32)) := by
  have hF := FJust_f s hs 32
  have hl := justR_len s 32
  unfold arrR
  generalize justR s 32 = z at hF hl ⊢
  obtain ⟨d, wy, pl⟩ := z
  simp only at hl ⊢
  have hlz : (d ++ List.replicate (32 - d.length) 0).length = 32 := by rw [List.length_append, List.length_replicate]; omega
  replace hF : Fn Tryd.prog 48 #[str s, .int .i64 32] [] [] (fun v L => ∃ M a c, v = .tuple #[.slice a d.length c, faultV (wy : Int) (pl : Int)] ∧ L = [M] ∧ Row M 5 1 a d.length c (u8s d)) := hF
  refine Fn.enter (vs := [str s]) Tryd.func21 rfl rfl rfl ?_
  intro E R hR
  change At _ _ E [R] _
  refine At.seq fun K1 hk_1 => ?_
  refine At.region ?_
  refine op_alloc (nxla rfl) ze54 rfl (fun N2 b2 B2 => ?_)
  change Blk N2 b2 _ [.int .u8 0, .int .u8 0, .int .u8 0, .int .u8 0, .int .u8 0, .int .u8 0, .int .u8 0, .int .u8 0, .int .u8 0, .int .u8 0, .int .u8 0, .int .u8 0, .int .u8 0, .int .u8 0, .int .u8 0, .int .u8 0, .int .u8 0, .int .u8 0, .int .u8 0, .int .u8 0, .int .u8 0, .int .u8 0, .int .u8 0, .int .u8 0, .int .u8 0, .int .u8 0, .int .u8 0, .int .u8 0, .int .u8 0, .int .u8 0, .int .u8 0, .int .u8 0] at B2
  change Blk N2 b2 _ (u8s (List.replicate 32 0)) at B2
  refine op_alloc (nxla rfl) ze30 rfl (fun N3 b3 B3 => ?_)
  change Blk N3 b3 _ [.int .i64 0, .int .i64 0] at B3
  change Blk N3 b3 _ [.int .i64 0, .int .i64 0] at B3
  refine At.opsNil ?_
  refine At.norm (hk_1 ?_)
  refine At.seq fun K2 hk_2 => ?_
  refine At.region ?_
  refine op_alloc (nxla rfl) ze54 rfl (fun N4 b4 B4 => ?_)
  change Blk N4 b4 _ [.int .u8 0, .int .u8 0, .int .u8 0, .int .u8 0, .int .u8 0, .int .u8 0, .int .u8 0, .int .u8 0, .int .u8 0, .int .u8 0, .int .u8 0, .int .u8 0, .int .u8 0, .int .u8 0, .int .u8 0, .int .u8 0, .int .u8 0, .int .u8 0, .int .u8 0, .int .u8 0, .int .u8 0, .int .u8 0, .int .u8 0, .int .u8 0, .int .u8 0, .int .u8 0, .int .u8 0, .int .u8 0, .int .u8 0, .int .u8 0, .int .u8 0, .int .u8 0] at B4
  change Blk N4 b4 _ (u8s (List.replicate 32 0)) at B4
  refine At.opsNil ?_
  refine At.norm (hk_2 ?_)
  refine At.seq fun K3 hk_3 => ?_
  refine At.region ?_
  refine op_move (nxlf rfl) rfl rfl ?_
  refine op_callA (nxla rfl) (.cons rfl (.cons rfl .nil)) (hF) Tryd.func48 rfl rfl (by simp) rfl ?_
  rintro v9 L9 ⟨N9, a9, c9, rfl, rfl, r9⟩
  change At _ _ _ [N9, N4, N3, N2, R] _
  refine op_move (nxlf rfl) rfl rfl ?_
  refine op_extract (nxlf rfl) rfl rfl rfl ?_
  refine op_extract (nxlf rfl) rfl rfl rfl ?_
  refine op_alloc (nxla rfl) ze30 rfl (fun N6 b6 B6 => ?_)
  change Blk N6 b6 _ [.int .i64 0, .int .i64 0] at B6
  refine op_assign (nxlf rfl) rfl rfl ?_
  refine op_store (nxl rfl) sz30 rfl rfl rfl rfl rfl B6 (by simp) sel0 (fun N6 B6 => ?_)
  simp only [setL, List.set] at B6
  refine At.opsNil ?_
  refine At.norm (hk_3 ?_)
  refine At.seq fun K4 hk_4 => ?_
  refine At.region ?_
  have s9 := r9.rsl
  refine op_sliceA (nxlf rfl) ae54 rfl .none .none .none (by omega) (by omega) (by omega) (by simp) rfl ?_
  refine op_move (nxlf rfl) rfl rfl ?_
  refine op_copyB (nxl rfl) se22 rfl rfl B4 s9 (by first | exact mem0 | exact mem1 | exact mem2 | exact mem3 | exact mem4 | exact mem5 | exact mem6 | exact mem7 | exact mem8 | exact mem9) (by first | exact one_u8s _ | exact one_u64s _ | exact one_u32s _ | (intro u hu; simp at hu; subst hu; rfl)) (by simp [u8s]; omega) sel2 rfl (fun N4 B4 => ?_)
  rw [copyN rfl (by omega) (by omega)] at B4
  refine At.opsNil ?_
  refine At.norm (hk_4 ?_)
  refine At.seq fun K5 hk_5 => ?_
  refine At.perm sel5 ?_
  refine At.perm sel2 ?_
  refine At.perm sel2 ?_
  refine At.perm sel5 ?_
  refine At.perm sel5 ?_
  refine At.perm sel5 ?_
  refine At.drawnS [N4, N6, R] [3] [] [0,1,2,3] (by kernel_rfl) (by kernel_rfl) (.cons _ (.cons _ (.cons _ (.refl _)))) ?_
  refine op_loadAggB (ds := u8s (d ++ List.replicate (32 - d.length) 0)) (nxsf rfl rfl rfl) ag54 rfl B4 (by first | (rw [List.drop_zero, List.take_of_length_le (by first | (simp; done) | (simp; omega))]; done) | rfl) (by first | (simp; done) | (simp; omega)) mem0 rfl ?_
  refine op_loadAggB (ds := [_, _]) (nxsf rfl rfl rfl) ag30 rfl B6 rfl rfl mem1 rfl ?_
  refine op_store (nxsm rfl rfl rfl) sz54 rfl rfl rfl (by simp [u8s]; omega) (all8x _) B2 (by simp [u8s]; omega) sel2 (fun N2 B2 => ?_)
  rw [setL_whole (by simp [u8s]; omega)] at B2
  refine At.moreS (Lst := [N4, N6, R]) (Lst' := [N4, N6, R]) (.refl _) (.cons _ (.cons _ (.cons _ (.refl _)))) ?_
  refine op_store (nxsl rfl rfl rfl rfl) sz30 rfl rfl rfl rfl rfl B3 (by simp) sel2 (fun N3 B3 => ?_)
  simp only [setL, List.set] at B3
  refine At.sNil ?_
  refine At.norm (hk_5 ?_)
  refine At.ret (?_)
  refine At.sub (L' := [N3, N2, R]) (.cons_cons _ (.cons_cons _ (.cons _ (.cons _ (.cons _ (.cons_cons _ (.slnil))))))) ?_
  refine At.perm sel2 ?_
  refine At.perm sel1 ?_
  refine At.perm sel2 ?_
  refine At.retN (L1 := []) rfl (.cell rfl (res_agg (ds := u8s (d ++ List.replicate (32 - d.length) 0)) ag54 B2 (by rw [List.drop_zero, List.take_of_length_le (by simp [u8s]; omega)]) (by simp [u8s]; omega) mem0) (.cell rfl (res_agg (ds := [_, _]) ag30 B3 rfl rfl mem1) .nil)) rfl (.cons _ (.cons _ (.refl _))) (.refl _) ?_
  exact ⟨rfl, rfl⟩
end Go.Proofs.YtlkjfbfenpkmhaaDoor
/- hexa.Mixed. No condition. -/
namespace Go.Proofs.YtlkjfbfenpkmhaaDoor
set_option linter.unusedVariables false
set_option linter.unusedSimpArgs false
open Go Go.RowKit
/-- A letter made great. -/
def upB (b : UInt8) : UInt8 := if 97 ≤ b.toNat ∧ b.toNat ≤ 122 then b - 32 else b
/-- A letter of an address with its check. -/
def mixC (t h : List UInt8) (i : Nat) : UInt8 := if 56 ≤ (h.getD i 0).toNat then upB (t.getD i 0) else t.getD i 0
def mixU (t h : List UInt8) (q : Nat) : List Nat := (List.range q).map fun i => (mixC t h i).toNat
def mixL (a : List UInt8) : List UInt8 := (List.range 40).map (mixC (hexL a) (hexL (kec (hexL a))))
theorem mixU_len (t h : List UInt8) (q : Nat) : (mixU t h q).length = q := by simp [mixU]
theorem mixU_succ (t h : List UInt8) (q : Nat) : mixU t h (q + 1) = mixU t h q ++ [(mixC t h q).toNat] := by simp [mixU, List.range_succ]
theorem upB_nat {b : UInt8} (h : b.toNat < 128) : ((upB b).toNat : Int) = Lib.toUpperR (b.toNat : Int) := by
  unfold upB Lib.toUpperR
  by_cases h1 : 97 ≤ b.toNat ∧ b.toNat ≤ 122
  · rw [if_pos h1, if_pos (by omega), UInt8.toNat_sub]
    show (((256 - 32 + b.toNat) % 256 : Nat) : Int) = _
    omega
  · rw [if_neg h1, if_neg (by omega)]
theorem upB_low {b : UInt8} (h : b.toNat < 128) : (upB b).toNat < 128 := by
  have := upB_nat h
  unfold Lib.toUpperR at this
  split at this <;> omega
theorem mixC_low {t h : List UInt8} {i : Nat} (ht : (t.getD i 0).toNat < 128) : (mixC t h i).toNat < 128 := by
  unfold mixC
  split
  · exact upB_low ht
  · exact ht
theorem FUp_f {b : UInt8} (h : b.toNat < 128) : Fn Tryd.prog 56 #[.int .i32 (b.toNat : Int)] [] [] (fun v L => v = .int .i32 ((upB b).toNat : Int) ∧ L = []) := by
  refine Fn.of_same0 fun w => ?_
  have := Tryd.unicode_ToUpper (b.toNat : Int) w (by omega)
  rw [← upB_nat h] at this
  exact this
theorem rune_low {t : List UInt8} {q : Nat} (hq : q < t.length) (h : (t.getD q 0).toNat < 128) : runeAt t q = (t.getD q 0).toNat ∧ nextP t q = q + 1 := by
  have e : t.drop q = t.getD q 0 :: t.drop (q + 1) := by
    rw [List.drop_eq_getElem_cons hq, List.getD_eq_getElem?_getD, List.getElem?_eq_getElem hq, Option.getD_some]
  rw [nextP_y hq, runeAt, e, decode_low h]
  exact ⟨rfl, rfl⟩
theorem low_get {t : List UInt8} (h : ∀ b ∈ t, b.toNat < 128) (i : Nat) : (t.getD i 0).toNat < 128 := by
  rw [List.getD_eq_getElem?_getD]
  cases e : t[i]? with
  | none => decide
  | some x => exact h x (List.mem_of_getElem? e)
set_option maxRecDepth 100000 in
set_option maxHeartbeats 2000000 in
theorem FMixed_f {a : List UInt8} (ha : a.length = 20) : Fn Tryd.prog 26 #[.agg (u8s a).toArray] [] [] (fun v L => v = str (48 :: 120 :: mixL a) ∧ L = []) := by
  unfold mixL
  obtain ⟨t, ht⟩ : ∃ t, hexL a = t := ⟨_, rfl⟩
  obtain ⟨k, hk⟩ : ∃ k, kec t = k := ⟨_, rfl⟩
  obtain ⟨h, hh⟩ : ∃ h, hexL k = h := ⟨_, rfl⟩
  rw [ht, hk, hh]
  have htl : t.length = 40 := by rw [← ht, hexL_len, ha]
  have hkl : k.length = 32 := by rw [← hk]; exact kec_len _
  have hhl : h.length = 64 := by rw [← hh, hexL_len, hkl]
  have htk : ∀ b ∈ t, b.toNat < 128 := by rw [← ht]; exact fun b hb => (hexL_ok a b hb).1
  have hlow := low_get htk
  have hfin : (48 :: 120 :: mixU t h 40).map UInt8.ofNat = 48 :: 120 :: (List.range 40).map (mixC t h) := by
    rw [List.map_cons, List.map_cons, mixU, List.map_map]
    refine congrArg (fun z => 48 :: 120 :: z) (List.map_congr_left fun i _ => ?_)
    exact UInt8.ofNat_toNat
  have hall : ∀ r ∈ (48 :: 120 :: mixU t h 40 : List Nat), r < 128 := by
    intro r hr
    rcases List.mem_cons.1 hr with rfl | hr
    · decide
    · rcases List.mem_cons.1 hr with rfl | hr
      · decide
      · obtain ⟨i, _, rfl⟩ := List.mem_map.1 hr
        exact mixC_low (hlow i)
  refine Fn.enter (vs := [.agg (u8s a).toArray]) Tryd.func26 rfl rfl rfl ?_
  intro E R hR
  change At _ _ E [R] _
  refine At.seq fun K1 hk_1 => ?_
  refine At.region ?_
  refine op_box (nxla rfl) rfl rfl rfl (fun N1 b1 B1 => ?_)
  have s1 := blk8 B1 ha (by decide)
  refine op_assign (nxlf rfl) rfl rfl ?_
  refine At.opsNil ?_
  refine At.norm (hk_1 ?_)
  refine At.seq fun K2 hk_2 => ?_
  refine At.region ?_
  refine op_sliceA (nxlf rfl) ae50 rfl .none .none .none (by omega) (by omega) (by omega) (by simp) rfl ?_
  refine op_callA (nxla rfl) (.cons rfl .nil) (FText_f s1 (by decide)) Tryd.func9 rfl rfl (by simp) rfl ?_
  rintro v10 L10 ⟨rfl, rfl⟩
  change At _ _ _ [N1, R] _
  refine op_callA (nxla rfl) (.cons rfl (.cons rfl .nil)) (FTrimP_f (l := hexT a) (p := [48, 120]) (by rw [hexT_len]; show 2 ≤ _; omega) rfl) Tryd.func53 rfl rfl (by simp) rfl ?_
  rintro v11 L11 ⟨rfl, rfl⟩
  change At _ _ _ [N1, R] _
  rw [show (hexT a).drop ([48, 120] : List UInt8).length = t from by rw [← ht]; rfl]
  refine op_assign (nxlf rfl) rfl rfl ?_
  refine At.opsNil ?_
  refine At.norm (hk_2 ?_)
  refine At.seq fun K3 hk_3 => ?_
  refine At.region ?_
  refine op_move (nxlf rfl) rfl rfl ?_
  refine op_strB (nxla rfl) Tryd.underlying9 Tryd.underlying22 Tryd.underlying5 rfl (by omega) rfl (fun N13 b13 p13 m13 => ?_)
  have s13 := m13.rsl
  refine op_callA (nxla rfl) (.cons rfl .nil) (FKeccak_f s13 (by omega)) Tryd.func55 rfl rfl (by simp) rfl ?_
  rintro v14 L14 ⟨rfl, rfl⟩
  change At _ _ _ [N13, N1, R] _
  rw [hk]
  refine op_alloc (nxla rfl) ze53 rfl (fun N4 b4 B4 => ?_)
  change Blk N4 b4 _ [.int .u8 0, .int .u8 0, .int .u8 0, .int .u8 0, .int .u8 0, .int .u8 0, .int .u8 0, .int .u8 0, .int .u8 0, .int .u8 0, .int .u8 0, .int .u8 0, .int .u8 0, .int .u8 0, .int .u8 0, .int .u8 0, .int .u8 0, .int .u8 0, .int .u8 0, .int .u8 0, .int .u8 0, .int .u8 0, .int .u8 0, .int .u8 0, .int .u8 0, .int .u8 0, .int .u8 0, .int .u8 0, .int .u8 0, .int .u8 0, .int .u8 0, .int .u8 0] at B4
  refine op_store (nxl rfl) sz53 rfl rfl rfl (by simp [u8s, hkl]) (all8x _) B4 (by simp [u8s, hkl]) sel0 (fun N4 B4 => ?_)
  rw [setL_whole (by simp [u8s, hkl])] at B4
  refine At.opsNil ?_
  refine At.norm (hk_3 ?_)
  refine At.seq fun K4 hk_4 => ?_
  refine At.region ?_
  have s4 := blk8 B4 hkl (by decide)
  refine op_sliceA (nxlf rfl) ae53 rfl .none .none .none (by omega) (by omega) (by omega) (by simp) rfl ?_
  refine op_callA (nxla rfl) (.cons rfl .nil) (FText_f s4 (by decide)) Tryd.func9 rfl rfl (by simp) rfl ?_
  rintro v16 L16 ⟨rfl, rfl⟩
  change At _ _ _ [N4, N13, N1, R] _
  have hTl := hexT_len k
  refine op_sliceStr (nxlf rfl) Tryd.underlying9 rfl (.some rfl (show _ = (((2 : Nat)) : Int) from by omega)) .none .none (by omega) (by omega) (by omega) (by simp) rfl ?_
  rw [show ((hexT k).drop 2).take ((hexT k).length - 2) = h from by rw [← hh]; exact List.take_of_length_le (by rw [List.length_drop]; exact Nat.le_refl _)]
  refine op_assign (nxlf rfl) rfl rfl ?_
  refine At.opsNil ?_
  refine At.norm (hk_4 ?_)
  refine At.seq fun K5 hk_5 => ?_
  refine At.region ?_
  refine op_lit (nxla rfl) Tryd.underlying96 ze21 sz21 (.cons rfl (.cons rfl .nil)) rfl rfl (by simp [Value.cells]) rfl rfl rfl (fun N18 a18 r18 => ?_)
  simp only [flatV, List.flatMap_cons, List.flatMap_nil, Value.cells, List.append_nil, List.cons_append, List.nil_append] at r18
  have s18 := r18.rsl
  change Row N18 _ 1 a18 2 2 (runesV [48, 120]) at r18
  refine op_assign (nxlf rfl) rfl rfl ?_
  refine At.opsNil ?_
  refine At.norm (hk_5 ?_)
  refine At.seq fun K6 hk_6 => ?_
  refine At.seq fun K7 hk_7 => ?_
  refine At.region ?_
  refine op_move (nxlf rfl) rfl rfl ?_
  refine op_rangeS (nxla rfl) Tryd.underlying9 rfl rfl (fun N20 b20 I20 => ?_)
  refine At.opsNil ?_
  refine At.norm (hk_7 ?_)
  refine At.block ?_
  refine At.sub (L' := [N20, N18, R]) (.cons_cons _ (.cons_cons _ (.cons _ (.cons _ (.cons _ (.cons_cons _ (.slnil))))))) ?_
  refine At.loop (fun fr_ hp_ ms_ => ∃ (q : Nat) (p : Option Addr) (m c : Nat) (Na N20 : Heaplet), fr_ = [(5, str h), (6, .slice p m c), (20, .pointer (some ⟨b20, 0, none⟩))] ∧ hp_ = [N20, Na, R] ∧ 40 - q = ms_ ∧ (q ≤ 40) ∧ (m = q + 2) ∧ (IterH N20 b20 t q) ∧ (Row Na 21 1 p m c (runesV (48 :: 120 :: mixU t h q)))) ?_ (.refl _) ⟨0, a18, 2, 2, N18, N20, rfl, rfl, rfl, Nat.zero_le _, rfl, I20, r18⟩ ?_
  · exact .cons (by first | exact lkI rfl (by omega) | rfl) (.cons (by first | exact lkI rfl (by omega) | rfl) (.cons (by first | exact lkI rfl (by omega) | rfl) .nil))
  rintro _ _ _ ⟨q, p, m, c, Na, N20, rfl, rfl, rfl, hq, hm, I20, ra⟩
  refine At.seq fun K8 hk_8 => ?_
  refine At.region ?_
  refine op_nextS (nxl rfl) rfl I20 sel0 rfl (fun N20 I20 => ?_)
  refine op_nx0 (nxlf rfl) rfl rfl ?_
  refine At.opsNil ?_
  refine At.norm (hk_8 ?_)
  refine At.seq fun K9 hk_9 => ?_
  refine At.condP rfl (fun c22 => ?_) (fun c22 => ?_)
  · have hlt : q < t.length := c22
    obtain ⟨hrn, hnp⟩ := rune_low hlt (hlow q)
    refine At.skip ?_
    refine At.norm (hk_9 ?_)
    refine At.block ?_
    refine At.seq fun K10 hk_10 => ?_
    refine At.region ?_
    refine op_nx1 (nxlf rfl) rfl (by omega) rfl ?_
    refine op_nx2 (nxlf rfl) rfl (by omega) rfl ?_
    rw [hrn]
    refine op_assign (nxlf rfl) rfl rfl ?_
    refine op_assign (nxlf rfl) rfl rfl ?_
    refine At.opsNil ?_
    refine At.norm (hk_10 ?_)
    refine At.seq fun K11 hk_11 => ?_
    refine At.meet (fun fr_ hp_ => ∃ (x : UInt8), fr_ = [(5, str h), (6, .slice p m c), (8, .int .i32 (x.toNat : Int)), (20, .pointer (some ⟨b20, 0, none⟩))] ∧ hp_ = [N20, Na, R] ∧ (x = mixC t h q)) ?_ (fun K11_ jk_11 => ?_)
    rotate_left
    · skip
      refine At.seq fun K12 hk_12 => ?_
      refine At.region ?_
      refine op_move (nxlf rfl) rfl rfl ?_
      refine op_move (nxlf rfl) rfl rfl ?_
      refine op_idxS (nxlf rfl) Tryd.underlying9 rfl rfl (show _ = (((q : Nat)) : Int) from by omega) (by omega) rfl ?_
      refine op_geq (nxlf rfl) rfl rfl rfl ?_
      refine At.opsNil ?_
      refine At.norm (hk_12 ?_)
      refine At.condP rfl (fun c28 => ?_) (fun c28 => ?_)
      · refine At.region ?_
        refine op_move (nxlf rfl) rfl rfl ?_
        refine op_callA (nxla rfl) (.cons rfl .nil) (FUp_f (hlow q)) Tryd.func56 rfl rfl (by simp) rfl ?_
        rintro v30 L30 ⟨rfl, rfl⟩
        change At _ _ _ [N20, Na, R] _
        refine op_assign (nxlf rfl) rfl rfl ?_
        refine At.opsNil ?_
        refine At.norm (jk_11 ?_ (.refl _) ⟨upB (t.getD q 0), rfl, rfl, by rw [mixC, if_pos (by omega)]⟩)
        exact .cons (by first | exact lkI rfl (by omega) | rfl) (.cons (by first | exact lkI rfl (by omega) | rfl) (.cons (by first | exact lkI rfl (by omega) | rfl) (.cons (by first | exact lkI rfl (by omega) | rfl) .nil)))
      · refine At.skip ?_
        refine At.norm (jk_11 ?_ (.refl _) ⟨t.getD q 0, rfl, rfl, by rw [mixC, if_neg (by omega)]⟩)
        exact .cons (by first | exact lkI rfl (by omega) | rfl) (.cons (by first | exact lkI rfl (by omega) | rfl) (.cons (by first | exact lkI rfl (by omega) | rfl) (.cons (by first | exact lkI rfl (by omega) | rfl) .nil)))
    rintro _ _ ⟨x, rfl, rfl, hx⟩
    refine hk_11 ?_
    refine At.region ?_
    subst hx
    refine op_move (nxlf rfl) rfl rfl ?_
    refine op_move (nxlf rfl) rfl rfl ?_
    refine op_lit (nxla rfl) Tryd.underlying96 ze21 sz21 (.cons rfl .nil) rfl rfl (by simp [Value.cells]) rfl rfl rfl (fun N33 a33 r33 => ?_)
    simp only [flatV, List.flatMap_cons, List.flatMap_nil, Value.cells, List.append_nil, List.cons_append, List.nil_append] at r33
    have s33 := r33.rsl
    change Row N33 _ 1 a33 1 1 (runesV [(mixC t h q).toNat]) at r33
    have s33 := r33.rsl
    refine op_append (nxl rfl) Tryd.underlying96 Tryd.underlying96 te21 rfl rfl ra s33 (by first | exact mem0 | exact mem1 | exact mem2 | exact mem3 | exact mem4 | exact mem5 | exact mem6 | exact mem7 | exact mem8 | exact mem9) (one_rs _) (by omega) (by omega) sel2 rfl (fun N34 a34 p34 r34 => ?_)
    have s34 := r34.rsl
    have r34 : Row N34 21 1 a34 (m + 1) p34 (runesV (48 :: 120 :: mixU t h (q + 1))) := by
      rw [mixU_succ, show runesV (48 :: 120 :: (mixU t h q ++ [(mixC t h q).toNat])) = runesV (48 :: 120 :: mixU t h q) ++ runesV [(mixC t h q).toNat] by simp [runesV]]
      exact r34
    refine op_assign (nxlf rfl) rfl rfl ?_
    refine At.opsNil ?_
    refine At.inNorm ?_
    refine At.norm ?_
    refine At.sub (L' := [N34, N20, R]) (.cons_cons _ (.cons _ (.cons_cons _ (.cons_cons _ (.slnil))))) ?_
    refine At.perm sel2 ?_
    refine At.perm sel1 ?_
    refine At.perm sel2 ?_
    refine At.back ?_ (.refl _) ⟨q + 1, a34, m + 1, p34, N34, N20, rfl, rfl, rfl, by omega, by omega, by rw [hnp] at I20; exact I20, r34⟩ ?_
    · exact .cons (by first | exact lkI rfl (by omega) | rfl) (.cons (by first | exact lkI rfl (by omega) | rfl) (.cons (by first | exact lkI rfl (by omega) | rfl) .nil))
    · omega
  · have hq40 : q = 40 := by omega
    subst hq40
    refine At.exit (At.thenExit (At.thenExit (At.inHit ?_)))
    refine At.norm (hk_6 ?_)
    refine At.seq fun K13 hk_13 => ?_
    refine At.region ?_
    refine op_move (nxlf rfl) rfl rfl ?_
    refine op_runesS (nxlf rfl) Tryd.underlying96 Tryd.underlying21 Tryd.underlying9 rfl ra.rsl hall (by simp) rfl ?_
    rw [hfin]
    refine op_assign (nxlf rfl) rfl rfl ?_
    refine At.opsNil ?_
    refine At.norm (hk_13 ?_)
    refine At.ret (?_)
    refine At.sub (L' := [R]) (.cons _ (.cons _ (.cons_cons _ (.slnil)))) ?_
    refine At.ret1 (L1 := []) rfl (.tmp rfl .nil) (.refl _) (.refl _) ?_
    exact ⟨rfl, rfl⟩
end Go.Proofs.YtlkjfbfenpkmhaaDoor
/- hexa.Decimal. No condition. -/
namespace Go.Proofs.YtlkjfbfenpkmhaaDoor
set_option linter.unusedVariables false
set_option linter.unusedSimpArgs false
open Go Go.RowKit
theorem dec_small {u : Nat} (h : u < 10) : Lib.decDigits u = [UInt8.ofNat (48 + u % 10)] := by rw [Lib.decDigits_one h, Nat.mod_eq_of_lt h]
theorem dec_step {u : Nat} (h : ¬ u < 10) : Lib.decDigits u = Lib.decDigits (u / 10) ++ [UInt8.ofNat (48 + u % 10)] := by
  conv => lhs; rw [Lib.decDigits, dif_neg h]
theorem dec_len : ∀ (k u : Nat), u < 10 ^ (k + 1) → (Lib.decDigits u).length ≤ k + 1 := by
  intro k
  induction k with
  | zero => intro u h; rw [dec_small (by simpa using h)]; exact Nat.le_refl _
  | succ k ih =>
    intro u h
    by_cases h10 : u < 10
    · rw [dec_small h10]; show 1 ≤ _; omega
    · rw [dec_step h10, List.length_append, List.length_singleton]
      have := ih (u / 10) (by rw [Nat.pow_succ] at h; omega)
      omega
theorem dec_word {x : Nat} (h : x < WW) : (Lib.decDigits x).length ≤ 78 := dec_len 77 x (Nat.lt_of_lt_of_le h (by decide))
theorem decDig_at : ∀ r, r < 10 → (hexD.drop r).take (r + 1 - r) = [UInt8.ofNat (48 + r)] := by decide +kernel
theorem modZ10 (X : Nat) : modZ X 10 = X % 10 := rfl
set_option maxRecDepth 100000 in
set_option maxHeartbeats 2000000 in
theorem FDecimal_f {x : Nat} (hx : x < WW) : Fn Tryd.prog 27 #[wo x] [] [] (fun v L => v = str (Lib.decDigits x) ∧ L = []) := by
  have hwl := dec_word hx
  have h10 : (10 : Nat) < WW := by decide
  refine Fn.enter (vs := [wo x]) Tryd.func27 rfl rfl rfl ?_
  intro E R hR
  change At _ _ E [R] _
  refine At.seq fun K1 hk_1 => ?_
  refine At.region ?_
  refine op_box (nxla rfl) rfl rfl rfl (fun N1 b1 B1 => ?_)
  change Blk N1 b1 _ (u64s (wl x)) at B1
  refine op_assign (nxlf rfl) rfl rfl ?_
  refine At.opsNil ?_
  refine At.norm (hk_1 ?_)
  refine At.seq fun K2 hk_2 => ?_
  refine At.region ?_
  refine op_callA (nxla rfl) (.cons rfl .nil) (WOf_f 10) Tryd.func43 rfl rfl (by simp) rfl ?_
  rintro v7 L7 ⟨rfl, rfl⟩
  change At _ _ _ [N1, R] _
  refine op_alloc (nxla rfl) ze46 rfl (fun N3 b3 B3 => ?_)
  change Blk N3 b3 _ [.int .u64 0, .int .u64 0, .int .u64 0, .int .u64 0] at B3
  refine op_store (nxl rfl) sz46 rfl rfl rfl rfl rfl B3 (by simp) sel0 (fun N3 B3 => ?_)
  rw [setL_whole (by simp)] at B3
  refine op_assign (nxlf rfl) rfl rfl ?_
  refine At.opsNil ?_
  refine At.norm (hk_2 ?_)
  refine At.block ?_
  refine At.loop (fun fr_ hp_ ms_ => ∃ (X : Nat) (acc : List UInt8) (N1 : Heaplet), fr_ = [(1, .pointer (some ⟨b1, 0, none⟩)), (3, .pointer (some ⟨b3, 0, none⟩)), (4, str acc)] ∧ hp_ = [N3, N1, R] ∧ X = ms_ ∧ (X < WW) ∧ (Lib.decDigits X ++ acc = Lib.decDigits x) ∧ (Blk N1 b1 46 (u64s (wl X)))) ?_ (.refl _) ⟨x, [], N1, rfl, rfl, rfl, hx, List.append_nil _, B1⟩ ?_
  · exact .cons (by first | exact lkI rfl (by omega) | rfl) (.cons (by first | exact lkI rfl (by omega) | rfl) (.cons (by first | exact lkI rfl (by omega) | rfl) .nil))
  rintro _ _ _ ⟨X, acc, N1, rfl, rfl, rfl, hX, hd, B1⟩
  obtain ⟨g, hg⟩ : ∃ g : UInt64, g.toNat = X % 10 := ⟨UInt64.ofNat (X % 10), by rw [UInt64.toNat_ofNat']; omega⟩
  have hg1 : (g + 1).toNat = X % 10 + 1 := by rw [UInt64.toNat_add, hg]; show (X % 10 + 1) % 18446744073709551616 = _; omega
  have hal : acc.length ≤ 78 := by
    have := congrArg List.length hd
    rw [List.length_append] at this
    omega
  have hdlen : ([48, 49, 50, 51, 52, 53, 54, 55, 56, 57, 97, 98, 99, 100, 101, 102] : List UInt8).length = 16 := rfl
  have hdiv : X / 10 < WW := Nat.lt_of_le_of_lt (Nat.div_le_self ..) hX
  refine At.block ?_
  refine At.seq fun K3 hk_3 => ?_
  refine At.region ?_
  refine op_loadAggB (ds := u64s (wl X)) (nxlf rfl) ag46 rfl B1 (by first | (rw [List.drop_zero, List.take_of_length_le (by first | (simp; done) | (simp; omega))]; done) | rfl) (by first | (simp; done) | (simp; omega)) mem1 rfl ?_
  refine op_loadAggB (ds := u64s (wl 10)) (nxlf rfl) ag46 rfl B3 (by first | (rw [List.drop_zero, List.take_of_length_le (by first | (simp; done) | (simp; omega))]; done) | rfl) (by first | (simp; done) | (simp; omega)) mem0 rfl ?_
  refine op_callA (nxla rfl) (.cons rfl (.cons rfl .nil)) (WMod_f hX h10) Tryd.func58 rfl rfl (by simp) rfl ?_
  rintro v11 L11 ⟨rfl, rfl⟩
  change At _ _ _ [N3, N1, R] _
  rw [modZ10]
  refine op_callA (nxla rfl) (.cons rfl .nil) (WSmall_f (x := X % 10) (by show _ < 2 ^ 256; omega) (by omega)) Tryd.func57 rfl rfl (by simp) rfl ?_
  rintro v12 L12 ⟨rfl, rfl⟩
  change At _ _ _ [N3, N1, R] _
  rw [← hg]
  refine op_move (nxlf rfl) rfl rfl ?_
  refine op_extract (nxlf rfl) rfl rfl rfl ?_
  refine op_extract (nxlf rfl) rfl rfl rfl ?_
  refine op_assign (nxlf rfl) rfl rfl ?_
  refine op_assign (nxlf rfl) rfl rfl ?_
  refine At.opsNil ?_
  refine At.norm (hk_3 ?_)
  refine At.seq fun K4 hk_4 => ?_
  refine At.region ?_
  refine op_move (nxlf rfl) rfl rfl ?_
  refine op_move (nxlf rfl) rfl rfl ?_
  refine op_addU (b := 1) (nxlf rfl) rfl rfl rfl ?_
  refine op_sliceStr (nxlf rfl) Tryd.underlying9 rfl (.some rfl (show _ = (((X % 10 : Nat)) : Int) from by omega)) (.some rfl (show _ = (((X % 10 + 1 : Nat)) : Int) from by omega)) .none (by omega) (by omega) (by omega) (by simp) rfl ?_
  rw [show (List.take (X % 10 + 1 - X % 10) (List.drop (X % 10) [48, 49, 50, 51, 52, 53, 54, 55, 56, 57, 97, 98, 99, 100, 101, 102]) : List UInt8) = [UInt8.ofNat (48 + X % 10)] from decDig_at _ (by omega)]
  refine op_move (nxlf rfl) rfl rfl ?_
  refine op_addS (nxlf rfl) rfl rfl (by (simp; omega)) rfl ?_
  refine op_assign (nxlf rfl) rfl rfl ?_
  refine At.opsNil ?_
  refine At.norm (hk_4 ?_)
  refine At.seq fun K5 hk_5 => ?_
  refine At.region ?_
  refine op_loadAggB (ds := u64s (wl X)) (nxlf rfl) ag46 rfl B1 (by first | (rw [List.drop_zero, List.take_of_length_le (by first | (simp; done) | (simp; omega))]; done) | rfl) (by first | (simp; done) | (simp; omega)) mem1 rfl ?_
  refine op_loadAggB (ds := u64s (wl 10)) (nxlf rfl) ag46 rfl B3 (by first | (rw [List.drop_zero, List.take_of_length_le (by first | (simp; done) | (simp; omega))]; done) | rfl) (by first | (simp; done) | (simp; omega)) mem0 rfl ?_
  refine op_callA (nxla rfl) (.cons rfl (.cons rfl .nil)) (WDiv_f hX h10) Tryd.func59 rfl rfl (by simp) rfl ?_
  rintro v23 L23 ⟨rfl, rfl⟩
  change At _ _ _ [N3, N1, R] _
  refine op_store (nxl rfl) sz46 rfl rfl rfl rfl rfl B1 (by simp) sel1 (fun N1 B1 => ?_)
  rw [setL_whole (by simp)] at B1
  refine At.opsNil ?_
  refine At.norm (hk_5 ?_)
  refine At.seq fun K6 hk_6 => ?_
  refine At.region ?_
  refine op_loadAggB (ds := u64s (wl (X / 10))) (nxlf rfl) ag46 rfl B1 (by first | (rw [List.drop_zero, List.take_of_length_le (by first | (simp; done) | (simp; omega))]; done) | rfl) (by first | (simp; done) | (simp; omega)) mem0 rfl ?_
  refine op_buildA (out := [.int .u64 0, .int .u64 0, .int .u64 0, .int .u64 0]) (nxlf rfl) ze46 ae46 .nil rfl rfl ?_
  refine op_eqW (a := wl (X / 10)) (b := wl 0) (nxlf rfl) ae46 Tryd.underlying44 (by kernel_rfl) rfl rfl rfl rfl rfl ?_
  refine At.opsNil ?_
  refine At.norm (hk_6 ?_)
  refine At.condP rfl (fun c26 => ?_) (fun c26 => ?_)
  · have h0 := wl_inj hdiv (by decide) c26
    have hlt : X < 10 := by omega
    refine At.seq fun K7 hk_7 => ?_
    refine At.region ?_
    refine op_move (nxlf rfl) rfl rfl ?_
    refine op_assign (nxlf rfl) rfl rfl ?_
    refine At.opsNil ?_
    refine At.norm (hk_7 ?_)
    refine At.ret (At.inRet (At.thenRet (At.inRet (?_))))
    refine At.sub (L' := [R]) (.cons _ (.cons _ (.cons_cons _ (.slnil)))) ?_
    refine At.ret1 (L1 := []) rfl (.tmp rfl .nil) (.refl _) (.refl _) ?_
    exact ⟨by rw [← hd, dec_small hlt], rfl⟩
  · have hge : ¬ X < 10 := fun h => c26 (by rw [show X / 10 = 0 by omega])
    refine At.skip ?_
    refine At.inNorm ?_
    refine At.norm ?_
    refine At.perm sel2 ?_
    refine At.perm sel1 ?_
    refine At.perm sel2 ?_
    refine At.back ?_ (.refl _) ⟨X / 10, UInt8.ofNat (48 + X % 10) :: acc, N1, rfl, rfl, rfl, Nat.lt_of_le_of_lt (Nat.div_le_self ..) hX, by rw [← hd, dec_step hge, List.append_assoc]; rfl, B1⟩ ?_
    · exact .cons (by first | exact lkI rfl (by omega) | rfl) (.cons (by first | exact lkI rfl (by omega) | rfl) (.cons (by first | exact lkI rfl (by omega) | rfl) .nil))
    · (exact Nat.div_lt_self (by omega) (by decide))
end Go.Proofs.YtlkjfbfenpkmhaaDoor
/- What is written reads back: plain laws. No condition. -/
namespace Go.Proofs.YtlkjfbfenpkmhaaDoor
set_option linter.unusedVariables false
set_option linter.unusedSimpArgs false
open Go
def pairD (b : UInt8) : List UInt8 := [UInt8.ofNat (b.toNat / 16), UInt8.ofNat (b.toNat % 16)]
theorem hexVal_B (b : UInt8) : (hexB b).map hexVal = pairD b := by
  have h8 := b.toNat_lt
  have e : ∀ q, q < 16 → hexVal (hexD.getD q 0) = UInt8.ofNat q := fun q h => by
    apply UInt8.toNat_inj.1
    rw [(hexD_ok q h).2, UInt8.toNat_ofNat']; omega
  rw [hexB, List.map_cons, List.map_cons, List.map_nil, e _ (by omega), e _ (by omega)]; rfl
theorem hexVal_L (l : List UInt8) : (hexL l).map hexVal = l.flatMap pairD := by
  induction l with
  | nil => rfl
  | cons b l ih => rw [hexL, List.flatMap_cons, List.map_append, hexVal_B, List.flatMap_cons, ← ih]; rfl
theorem hexPs_cons (x y : UInt8) (d : List UInt8) (m : Nat) : hexPs (x :: y :: d) (m + 1) = UInt8.ofNat (16 * x.toNat + y.toNat) :: hexPs d m := by
  rw [hexPs, List.range_succ_eq_map, List.map_cons, List.map_map]
  refine congrArg (List.cons (UInt8.ofNat (16 * x.toNat + y.toNat))) (List.map_congr_left fun i _ => ?_)
  show hexPr (x :: y :: d) (i + 1) = hexPr d i
  unfold hexPr
  rw [show 2 * (i + 1) = 2 * i + 1 + 1 by omega, show 2 * i + 1 + 1 + 1 = (2 * i + 1) + 1 + 1 by omega]
  simp only [List.getD_cons_succ]
theorem hexPs_pairs (l : List UInt8) : hexPs (l.flatMap pairD) l.length = l := by
  induction l with
  | nil => rfl
  | cons b l ih =>
    have h8 := b.toNat_lt
    rw [List.flatMap_cons, List.length_cons]
    show hexPs (_ :: _ :: (l.flatMap pairD)) _ = _
    rw [hexPs_cons, ih]
    refine congrArg (· :: l) ?_
    apply UInt8.toNat_inj.1
    rw [UInt8.toNat_ofNat', UInt8.toNat_ofNat', UInt8.toNat_ofNat']; omega
theorem bytes_back {t l : List UInt8} (h : ∀ b ∈ t, hexOk b) (ht : t.length = 2 * l.length) (hv : t.map hexVal = l.flatMap pairD) : bytesR (48 :: 120 :: t) = (l, 0, 0) := by
  rw [bytes_text h (by omega), hv, show t.length / 2 = l.length by omega, hexPs_pairs]
theorem bytes_hexT (l : List UInt8) : bytesR (hexT l) = (l, 0, 0) := bytes_back (hexL_ok l) (hexL_len l) (hexVal_L l)
theorem up_ok {b : UInt8} (h : hexOk b) : hexOk (upB b) ∧ hexVal (upB b) = hexVal b := by
  have hall : ∀ n, n < 128 → (hexV n).isSome = true → ((upB (UInt8.ofNat n)).toNat < 128 ∧ hexV (upB (UInt8.ofNat n)).toNat = hexV n) := by decide +kernel
  obtain ⟨h1, h2⟩ := h
  have := hall b.toNat h1 h2
  rw [UInt8.ofNat_toNat] at this
  exact ⟨⟨this.1, by rw [this.2]; exact h2⟩, by rw [hexVal, this.2]; rfl⟩
theorem mix_ok {t h : List UInt8} {i : Nat} (ho : hexOk (t.getD i 0)) : hexOk (mixC t h i) ∧ hexVal (mixC t h i) = hexVal (t.getD i 0) := by
  unfold mixC
  split
  · exact up_ok ho
  · exact ⟨ho, rfl⟩
theorem ok_get {t : List UInt8} {i : Nat} (h : ∀ b ∈ t, hexOk b) (hi : i < t.length) : hexOk (t.getD i 0) := by
  rw [List.getD_eq_getElem?_getD, List.getElem?_eq_getElem hi, Option.getD_some]
  exact h _ (List.getElem_mem hi)
theorem bytes_mix {a : List UInt8} (ha : a.length = 20) : bytesR (48 :: 120 :: mixL a) = (a, 0, 0) := by
  have hl := hexL_len a
  have ho := hexL_ok a
  refine bytes_back (fun b hb => ?_) (by rw [mixL, List.length_map, List.length_range, ha]) ?_
  · obtain ⟨i, hi, rfl⟩ := List.mem_map.1 hb
    exact (mix_ok (ok_get ho (by have := List.mem_range.1 hi; omega))).1
  · rw [← hexVal_L, mixL, List.map_map]
    have e : (hexL a).map hexVal = (List.range 40).map (fun i => hexVal ((hexL a).getD i 0)) := by
      apply List.ext_getElem
      · rw [List.length_map, List.length_map, List.length_range]; omega
      · intro i h1 h2
        rw [List.length_map] at h1
        simp [List.getD_eq_getElem?_getD, List.getElem?_eq_getElem h1]
    rw [e]
    refine List.map_congr_left fun i hi => ?_
    exact (mix_ok (ok_get ho (by have := List.mem_range.1 hi; omega))).2
theorem arr_back {s a : List UInt8} {n : Nat} (ha : a.length = n) (h : bytesR s = (a, 0, 0)) : arrR s n = (a, 0, 0) := by
  have e : justR s n = (a, 0, 0) := by
    unfold justR
    rw [h]
    simp only
    rw [if_neg (by decide), if_neg (fun h => h ha)]
  unfold arrR
  rw [e]
  simp only
  rw [ha, Nat.sub_self, List.replicate_zero, List.append_nil]
/-- The number that a decimal text says. -/
def decV (t : List UInt8) : Nat := t.foldl (fun a c => 10 * a + (c.toNat - 48)) 0
theorem decV_snoc (t : List UInt8) (c : UInt8) : decV (t ++ [c]) = 10 * decV t + (c.toNat - 48) := by simp [decV]
theorem dec_props : ∀ (k u : Nat), u ≤ k → decV (Lib.decDigits u) = u ∧ (∀ c ∈ Lib.decDigits u, 48 ≤ c.toNat ∧ c.toNat ≤ 57) ∧ 0 < (Lib.decDigits u).length ∧ (0 < u → ((Lib.decDigits u).getD 0 0).toNat ≠ 48) ∧ (u < 10 → (Lib.decDigits u).length = 1) := by
  intro k
  induction k with
  | zero =>
    intro u h
    obtain rfl : u = 0 := by omega
    rw [dec_small (by decide)]
    exact ⟨by decide, by decide, by decide, fun h => absurd h (by decide), fun _ => rfl⟩
  | succ k ih =>
    intro u h
    have hb : (UInt8.ofNat (48 + u % 10)).toNat = 48 + u % 10 := by rw [UInt8.toNat_ofNat']; omega
    by_cases h10 : u < 10
    · rw [dec_small h10]
      refine ⟨?_, ?_, by simp, ?_, fun _ => rfl⟩
      · show 10 * 0 + ((UInt8.ofNat (48 + u % 10)).toNat - 48) = u
        rw [hb]; omega
      · intro c hc
        obtain rfl := List.mem_singleton.1 hc
        rw [hb]; omega
      · intro h0
        show (UInt8.ofNat (48 + u % 10)).toNat ≠ 48
        rw [hb]; omega
    · obtain ⟨i1, i2, i3, i4, _⟩ := ih (u / 10) (by omega)
      rw [dec_step h10]
      refine ⟨?_, ?_, ?_, ?_, fun h => absurd h h10⟩
      · rw [decV_snoc, i1, hb]; omega
      · intro c hc
        rcases List.mem_append.1 hc with hc | hc
        · exact i2 c hc
        · obtain rfl := List.mem_singleton.1 hc
          rw [hb]; omega
      · rw [List.length_append]; omega
      · intro _
        have := i4 (by omega)
        rw [getD0 i3]; exact this
theorem decV_take {t : List UInt8} {i : Nat} (h : i < t.length) : decV (t.take (i + 1)) = 10 * decV (t.take i) + ((t.getD i 0).toNat - 48) := by
  rw [List.take_add_one, List.getElem?_eq_getElem h, Option.toList_some, decV_snoc, List.getD_eq_getElem?_getD, List.getElem?_eq_getElem h, Option.getD_some]
theorem decV_le {t : List UInt8} : ∀ j i, i + j = t.length → decV (t.take i) ≤ decV t := by
  intro j
  induction j with
  | zero => intro i h; rw [List.take_of_length_le (by omega)]; exact Nat.le_refl _
  | succ j ih =>
    intro i h
    have h1 := ih (i + 1) (by omega)
    rw [decV_take (by omega)] at h1
    omega
end Go.Proofs.YtlkjfbfenpkmhaaDoor
/- A number's text reads back: plain laws. No condition. -/
namespace Go.Proofs.YtlkjfbfenpkmhaaDoor
set_option linter.unusedVariables false
set_option linter.unusedSimpArgs false
open Go
theorem numR_text {ds : List UInt8} (h : ∀ b ∈ ds, hexOk b) (h0 : 0 < ds.length) (h64 : ds.length ≤ 64) (hz : 1 < ds.length → (hexVal (ds.getD 0 0)).toNat ≠ 0) : numR (48 :: 120 :: ds) = (numD (ds.map hexVal), 0, 0) := by
  have hask : ∀ i, i < ds.length → askN ((ds.take i).map hexVal) = 0 := by
    intro i hi
    have hl : ((ds.take i).map hexVal).length = i := by rw [List.length_map, List.length_take]; omega
    rw [askN, hl, if_neg, if_neg (by omega)]
    rintro ⟨h1, h2⟩
    subst h1
    refine hz hi ?_
    cases ds with
    | nil => cases h0
    | cons b t => exact h2
  have := read_text (ask := askN) (t := []) h hask
  rw [List.append_nil, runes_nil, readF_end1 (by omega)] at this
  unfold numR
  rw [this]
  simp only [List.length_map]
  rw [if_neg (by decide), if_neg (by omega)]
theorem numD_zero (t : List UInt8) : numD (0 :: t) = numD t := rfl
theorem numD_drop (l : List UInt8) : numD ((dropB 48 l).map hexVal) = numD (l.map hexVal) := by
  induction l with
  | nil => rfl
  | cons x t ih =>
    by_cases h : x = 48
    · subst h
      rw [show dropB 48 (48 :: t) = dropB 48 t by simp [dropB], ih, List.map_cons, show hexVal 48 = 0 by decide, numD_zero]
    · rw [show dropB 48 (x :: t) = x :: t by simp [dropB, h]]
theorem numD_fold : ∀ (l : List UInt8) (acc : Nat), (l.flatMap pairD).foldl (fun a x => 16 * a + x.toNat) acc = l.foldl (fun a x => a * 256 + x.toNat) acc := by
  intro l
  induction l with
  | nil => intro acc; rfl
  | cons b l ih =>
    intro acc
    have h8 := b.toNat_lt
    rw [List.flatMap_cons, List.foldl_append, ih, List.foldl_cons]
    refine congrArg (fun z => List.foldl _ z l) ?_
    show 16 * (16 * acc + (UInt8.ofNat (b.toNat / 16)).toNat) + (UInt8.ofNat (b.toNat % 16)).toNat = _
    rw [UInt8.toNat_ofNat', UInt8.toNat_ofNat']; omega
theorem numD_pairs (l : List UInt8) : numD (l.flatMap pairD) = be l := numD_fold l 0
theorem dropB_first {c : UInt8} {l : List UInt8} (h : 0 < (dropB c l).length) : (dropB c l).getD 0 0 ≠ c := by
  induction l with
  | nil => exact absurd h (by simp [dropB])
  | cons x t ih =>
    by_cases hx : x = c
    · have e : dropB c (x :: t) = dropB c t := by simp [dropB, hx]
      rw [e] at h ⊢
      exact ih h
    · have e : dropB c (x :: t) = x :: t := by simp [dropB, hx]
      rw [e]; exact hx
theorem val_zero {b : UInt8} (h : hexOk b) (hz : (hexVal b).toNat = 0) : b = 48 := by
  have hall : ∀ n, n < 128 → (hexV n).isSome = true → (UInt8.ofNat ((hexV n).getD 0)).toNat = 0 → n = 48 := by decide +kernel
  exact UInt8.toNat_inj.1 (hall b.toNat h.1 h.2 hz)
theorem num_back {x : Nat} (hx : x < WW) : numR (quantT x) = (x, 0, 0) := by
  have hb : (bytesOf x).length ≤ 32 := by
    rw [length_bytesOf]
    have := bitLen_le.2 hx
    omega
  have hl := hexL_len (bytesOf x)
  have ho := hexL_ok (bytesOf x)
  have hv : numD ((hexL (bytesOf x)).map hexVal) = x := by rw [hexVal_L, numD_pairs, be_bytesOf]
  have hd := dropB_len 48 (hexL (bytesOf x))
  unfold quantT
  by_cases h : dropB 48 (hexL (bytesOf x)) = []
  · rw [if_pos h]
    have e := numD_drop (hexL (bytesOf x))
    rw [h, hv] at e
    have e0 : x = 0 := e.symm
    rw [e0]
    decide +kernel
  · have hds : ∀ b ∈ dropB 48 (hexL (bytesOf x)), hexOk b := fun b hb => ho b ((List.dropWhile_sublist _).subset hb)
    rw [if_neg h, numR_text hds (List.length_pos_iff.2 h) (by omega) (fun _ hz => ?_), numD_drop, hv]
    have hp : 0 < (dropB 48 (hexL (bytesOf x))).length := List.length_pos_iff.2 h
    refine dropB_first hp (val_zero (ok_get hds hp) hz)
end Go.Proofs.YtlkjfbfenpkmhaaDoor
/- quarrylaw04.ten: ten times a word and a digit. No condition. -/
namespace Go.Proofs.YtlkjfbfenpkmhaaDoor
set_option linter.unusedVariables false
set_option linter.unusedSimpArgs false
open Go Go.RowKit
def tlo (a d : UInt64) : UInt64 := (a &&& (4294967295 : UInt64)) * (10 : UInt64) + d
def thi (a d : UInt64) : UInt64 := shr64 a 32 * (10 : UInt64) + shr64 (tlo a d) 32
def tr (a d : UInt64) : UInt64 := shl64 (thi a d) 32 ||| (tlo a d &&& (4294967295 : UInt64))
def tc (a d : UInt64) : UInt64 := shr64 (thi a d) 32
def tenS : Nat → List UInt64 → UInt64 → List UInt64 × UInt64
  | 0, l, c => (l, c)
  | i + 1, l, c => ((tenS i l c).1.set i (tr ((tenS i l c).1.getD i 0) (tenS i l c).2), tc ((tenS i l c).1.getD i 0) (tenS i l c).2)
theorem ten_limb {a d : UInt64} (h : d.toNat < 10) : (tr a d).toNat + 18446744073709551616 * (tc a d).toNat = 10 * a.toNat + d.toNat ∧ (tc a d).toNat < 10 := by
  have ha := a.toNat_lt
  have e1 : (a &&& 4294967295).toNat = a.toNat % 4294967296 := by
    rw [UInt64.toNat_and, show (4294967295 : UInt64).toNat = 2 ^ 32 - 1 from rfl, Nat.and_two_pow_sub_one_eq_mod]
  have e2 : (tlo a d).toNat = a.toNat % 4294967296 * 10 + d.toNat := by
    rw [tlo, UInt64.toNat_add, UInt64.toNat_mul, e1, show (10 : UInt64).toNat = 10 from rfl]; omega
  have e3 : (tlo a d &&& 4294967295).toNat = (tlo a d).toNat % 4294967296 := by
    rw [UInt64.toNat_and, show (4294967295 : UInt64).toNat = 2 ^ 32 - 1 from rfl, Nat.and_two_pow_sub_one_eq_mod]
  have sh : ∀ x : UInt64, (shr64 x 32).toNat = x.toNat / 4294967296 := fun x => by
    have := x.toNat_lt
    rw [shr64, UInt64.toNat_ofNat', show (2 : Nat) ^ 32 = 4294967296 from rfl]; omega
  have e4 : (thi a d).toNat = a.toNat / 4294967296 * 10 + (tlo a d).toNat / 4294967296 := by
    rw [thi, UInt64.toNat_add, UInt64.toNat_mul, sh, sh, show (10 : UInt64).toNat = 10 from rfl]; omega
  have e5 : (shl64 (thi a d) 32).toNat = (thi a d).toNat % 4294967296 * 4294967296 := by
    rw [shl64, UInt64.toNat_ofNat', show (2 : Nat) ^ 32 = 4294967296 from rfl]; omega
  have e6 : (tr a d).toNat = (thi a d).toNat % 4294967296 * 4294967296 + (tlo a d).toNat % 4294967296 := by
    rw [tr, UInt64.toNat_or, e5, e3]
    have := Nat.two_pow_add_eq_or_of_lt (i := 32) (b := (tlo a d).toNat % 4294967296) (Nat.mod_lt _ (by decide)) ((thi a d).toNat % 4294967296)
    rw [show (2 : Nat) ^ 32 = 4294967296 from rfl] at this
    rw [Nat.mul_comm ((thi a d).toNat % 4294967296), ← this]
  have e7 : (tc a d).toNat = (thi a d).toNat / 4294967296 := sh _
  omega
theorem ten_law {l : List UInt64} (hl : l.length = 4) {d : UInt64} (h : d.toNat < 10) : (tenS 4 l d).1 = wl (10 * v64 l + d.toNat) := by
  match l, hl with
  | [a, b, c, e], _ =>
    obtain ⟨p0, q0⟩ := ten_limb (a := a) h
    obtain ⟨p1, q1⟩ := ten_limb (a := b) q0
    obtain ⟨p2, q2⟩ := ten_limb (a := c) q1
    obtain ⟨p3, q3⟩ := ten_limb (a := e) q2
    have e1 : (tenS 4 [a, b, c, e] d).1 = [tr a d, tr b (tc a d), tr c (tc b (tc a d)), tr e (tc c (tc b (tc a d)))] := rfl
    rw [e1]
    have b0 := (tr a d).toNat_lt
    have b1 := (tr b (tc a d)).toNat_lt
    have b2 := (tr c (tc b (tc a d))).toNat_lt
    have b3 := (tr e (tc c (tc b (tc a d)))).toNat_lt
    refine wl_of rfl ?_
    simp only [v64, n64, List.map_cons, List.map_nil, val]
    show _ = _ % 2 ^ 256
    omega
set_option maxRecDepth 100000 in
theorem ten_f {x : Nat} (hx : x < WW) {d : UInt64} (h : d.toNat < 10) : Fn Tryd.prog 28 #[wo x, .int .u64 (d.toNat : Int)] [] [] (fun v L => v = wo (10 * x + d.toNat) ∧ L = []) := by
  have hlw := length_wl x
  refine Fn.enter (vs := [wo x, .int .u64 (d.toNat : Int)]) Tryd.func28 rfl rfl rfl ?_
  intro E R hR
  change At _ _ E [R] _
  refine At.seq fun K1 hk_1 => ?_
  refine At.region ?_
  refine op_box (nxla rfl) rfl rfl rfl (fun N2 b2 B2 => ?_)
  change Blk N2 b2 _ (u64s (wl x)) at B2
  refine op_alloc (nxla rfl) ze46 rfl (fun N4 b4 B4 => ?_)
  change Blk N4 b4 _ [.int .u64 0, .int .u64 0, .int .u64 0, .int .u64 0] at B4
  change Blk N4 b4 _ (u64s (wl 0)) at B4
  refine At.opsNil ?_
  refine At.norm (hk_1 ?_)
  refine At.seq fun K2 hk_2 => ?_
  refine At.seq fun K3 hk_3 => ?_
  refine At.region ?_
  refine op_assign (nxlf rfl) rfl rfl ?_
  refine At.opsNil ?_
  refine At.norm (hk_3 ?_)
  refine At.block ?_
  refine At.loop (fun fr_ hp_ ms_ => ∃ (i : Nat) (l : List UInt64) (c : UInt64) (N2 : Heaplet), fr_ = [(1, .int .u64 (c.toNat : Int)), (2, .pointer (some ⟨b2, 0, none⟩)), (4, .pointer (some ⟨b4, 0, none⟩)), (5, .int .i64 (i : Int))] ∧ hp_ = [N4, N2, R] ∧ 4 - i = ms_ ∧ (i ≤ 4) ∧ (l.length = 4) ∧ (tenS i (wl x) d = (l, c)) ∧ (Blk N2 b2 46 (u64s l))) ?_ (.refl _) ⟨0, wl x, d, N2, rfl, rfl, rfl, Nat.zero_le _, rfl, rfl, B2⟩ ?_
  · exact .cons (by first | exact lkI rfl (by omega) | rfl) (.cons (by first | exact lkI rfl (by omega) | rfl) (.cons (by first | exact lkI rfl (by omega) | rfl) (.cons (by first | exact lkI rfl (by omega) | rfl) .nil)))
  rintro _ _ _ ⟨i, l, c, N2, rfl, rfl, rfl, hi, hl, hz, B2⟩
  refine At.seq fun K4 hk_4 => ?_
  refine At.seq fun K5 hk_5 => ?_
  refine At.region ?_
  refine op_move (nxlf rfl) rfl rfl ?_
  refine op_lss (nxlf rfl) rfl rfl rfl ?_
  refine At.opsNil ?_
  refine At.norm (hk_5 ?_)
  refine At.condP rfl (fun c9 => ?_) (fun c9 => ?_)
  · refine At.skip ?_
    refine At.norm (hk_4 ?_)
    refine At.seq fun K6 hk_6 => ?_
    refine At.block ?_
    refine At.seq fun K7 hk_7 => ?_
    refine At.region ?_
    refine op_move (nxlf rfl) rfl rfl ?_
    refine op_idxA (nxlf rfl) ae46 rfl rfl (show _ = (((i : Nat)) : Int) from by omega) (by omega) rfl ?_
    refine op_loadB (nxlf rfl) sc44 rfl B2 (by first | exact get64A (by omega) | rfl) mem1 rfl ?_
    refine op_andU (b := 4294967295) (nxlf rfl) rfl rfl rfl ?_
    refine op_mulU (b := 10) (nxlf rfl) rfl rfl rfl ?_
    refine op_move (nxlf rfl) rfl rfl ?_
    refine op_addU (nxlf rfl) rfl rfl rfl ?_
    change At _ ((18, .int .u64 ((tlo (l.getD i 0) c).toNat : Int)) :: _) _ _ _
    refine op_assign (nxlf rfl) rfl rfl ?_
    refine At.opsNil ?_
    refine At.norm (hk_7 ?_)
    refine At.seq fun K8 hk_8 => ?_
    refine At.region ?_
    refine op_move (nxlf rfl) rfl rfl ?_
    refine op_idxA (nxlf rfl) ae46 rfl rfl (show _ = (((i : Nat)) : Int) from by omega) (by omega) rfl ?_
    refine op_loadB (nxlf rfl) sc44 rfl B2 (by first | exact get64A (by omega) | rfl) mem1 rfl ?_
    refine op_shrU (nxlf rfl) rfl rfl (show _ = ((32 : Nat) : Int) from rfl) rfl ?_
    refine op_mulU (b := 10) (nxlf rfl) rfl rfl rfl ?_
    refine op_move (nxlf rfl) rfl rfl ?_
    refine op_shrU (nxlf rfl) rfl rfl (show _ = ((32 : Nat) : Int) from rfl) rfl ?_
    refine op_addU (nxlf rfl) rfl rfl rfl ?_
    change At _ ((26, .int .u64 ((thi (l.getD i 0) c).toNat : Int)) :: _) _ _ _
    refine op_assign (nxlf rfl) rfl rfl ?_
    refine At.opsNil ?_
    refine At.norm (hk_8 ?_)
    refine At.seq fun K9 hk_9 => ?_
    refine At.region ?_
    refine op_move (nxlf rfl) rfl rfl ?_
    refine op_move (nxlf rfl) rfl rfl ?_
    refine op_shlU (nxlf rfl) rfl rfl (show _ = ((32 : Nat) : Int) from rfl) rfl ?_
    refine op_move (nxlf rfl) rfl rfl ?_
    refine op_andU (b := 4294967295) (nxlf rfl) rfl rfl rfl ?_
    refine op_orU (nxlf rfl) rfl rfl rfl ?_
    change At _ ((32, .int .u64 ((tr (l.getD i 0) c).toNat : Int)) :: _) _ _ _
    refine op_idxA (nxlf rfl) ae46 rfl rfl (show _ = (((i : Nat)) : Int) from by omega) (by omega) rfl ?_
    refine op_store (nxl rfl) sz44 rfl rfl rfl rfl rfl B2 (by simp <;> omega) sel1 (fun N2 B2 => ?_)
    rw [set64A] at B2
    refine At.opsNil ?_
    refine At.norm (hk_9 ?_)
    refine At.region ?_
    refine op_move (nxlf rfl) rfl rfl ?_
    refine op_shrU (nxlf rfl) rfl rfl (show _ = ((32 : Nat) : Int) from rfl) rfl ?_
    change At _ ((35, .int .u64 ((tc (l.getD i 0) c).toNat : Int)) :: _) _ _ _
    refine op_assign (nxlf rfl) rfl rfl ?_
    refine At.opsNil ?_
    refine At.inNorm ?_
    refine At.norm (hk_6 ?_)
    refine At.region ?_
    refine op_move (nxlf rfl) rfl rfl ?_
    refine op_addI (nxlf rfl) rfl rfl (by omega) (by omega) rfl ?_
    refine op_assign (nxlf rfl) rfl rfl ?_
    refine At.opsNil ?_
    refine At.norm ?_
    refine At.perm sel2 ?_
    refine At.perm sel1 ?_
    refine At.perm sel2 ?_
    refine At.back ?_ (.refl _) ⟨i + 1, l.set i (tr (l.getD i 0) c), tc (l.getD i 0) c, N2, rfl, rfl, rfl, by omega, by rw [List.length_set]; exact hl, by rw [tenS, hz], B2⟩ ?_
    · exact .cons (by first | exact lkI rfl (by omega) | rfl) (.cons (by first | exact lkI rfl (by omega) | rfl) (.cons (by first | exact lkI rfl (by omega) | rfl) (.cons (by first | exact lkI rfl (by omega) | rfl) .nil)))
    · omega
  · refine At.exit (At.thenExit (At.thenExit (At.inHit ?_)))
    refine At.norm (hk_2 ?_)
    refine At.seq fun K10 hk_10 => ?_
    refine At.region ?_
    have hi4 : i = 4 := by omega
    rw [hi4] at hz
    have hlaw := ten_law hlw h
    rw [hz, v64_wl_lt hx] at hlaw
    change l = _ at hlaw
    rw [hlaw] at B2
    refine op_loadAggB (ds := u64s (wl (10 * x + d.toNat))) (nxlf rfl) ag46 rfl B2 (by first | (rw [List.drop_zero, List.take_of_length_le (by first | (simp; done) | (simp; omega))]; done) | rfl) (by first | (simp; done) | (simp; omega)) mem1 rfl ?_
    refine op_store (nxl rfl) sz46 rfl rfl rfl rfl rfl B4 (by simp) sel0 (fun N4 B4 => ?_)
    rw [setL_whole (by simp)] at B4
    refine At.opsNil ?_
    refine At.norm (hk_10 ?_)
    refine At.ret (?_)
    refine At.sub (L' := [N4, R]) (.cons_cons _ (.cons _ (.cons_cons _ (.slnil)))) ?_
    refine At.ret1 (L1 := []) rfl (.cell rfl (res_agg (ds := u64s (wl (10 * x + d.toNat))) ag46 B4 (by first | (rw [List.drop_zero, List.take_of_length_le (by first | (simp; done) | (simp; omega))]; done) | rfl) (by first | (simp; done) | (simp; omega)) mem0) .nil) (.cons _ (.refl _)) (.refl _) ?_
    exact ⟨rfl, rfl⟩
end Go.Proofs.YtlkjfbfenpkmhaaDoor
/- The engine: structs of two ints compared. For whatever program. No condition. -/
namespace Go.Proofs.YtlkjfbfenpkmhaaDoor
set_option linter.unusedVariables false
set_option linter.unusedSimpArgs false
open Go Go.RowKit
/-- A struct of two ints with names of their own. -/
def pairInts (P : Program) (t : TypeId) : Bool := !P.eqGuardType P.depth t && !P.stoodInHeld t && match (P.fieldsOf t).toList with
  | [f, g] => (match P.underlying f.type with | some (.int .i64) => true | _ => false) && (match P.underlying g.type with | some (.int .i64) => true | _ => false) && decide (f.offset = 0) && decide (g.offset = 1) && decide (f.name ≠ "_") && decide (g.name ≠ "_")
  | _ => false
theorem i64_of {P : Program} {t : TypeId} (h : (match P.underlying t with | some (.int .i64) => true | _ => false) = true) : P.underlying t = some (.int .i64) := by
  split at h
  · assumption
  · cases h
theorem pairInts_spec {P : Program} {t : TypeId} (h : pairInts P t = true) : P.eqGuardType P.depth t = false ∧ P.stoodInHeld t = false ∧ ∃ f g, (P.fieldsOf t).toList = [f, g] ∧ P.underlying f.type = some (.int .i64) ∧ P.underlying g.type = some (.int .i64) ∧ f.offset = 0 ∧ g.offset = 1 ∧ f.name ≠ "_" ∧ g.name ≠ "_" := by
  unfold pairInts at h
  split at h
  · rename_i f g e
    simp only [Bool.and_eq_true, Bool.not_eq_true', decide_eq_true_eq] at h
    exact ⟨h.1.1, h.1.2, f, g, e, i64_of h.2.1.1.1.1.1, i64_of h.2.1.1.1.1.2, h.2.1.1.1.2, h.2.1.1.2, h.2.1.2, h.2.2⟩
  · simp at h
theorem pair_eq {P : Program} {t : TypeId} (h : pairInts P t = true) (ht : P.underlying t = some (.struct (P.fieldsOf t))) (a b c e : Int) (w : World) : (Op.equalIn 10000 t (.agg #[.int .i64 a, .int .i64 b]) (.agg #[.int .i64 c, .int .i64 e])).run P w = .ok (decide (a = c ∧ b = e)) w := by
  obtain ⟨_, h2, f, g, hf, u1, u2, o1, o2, n1, n2⟩ := pairInts_spec h
  rw [run_equalIn_struct w 9999 t _ _ ht h2, hf]
  have p : ∀ (t' : TypeId) (u : P.underlying t' = some (.int .i64)) (x y : Int), (Op.equalIn 9999 t' (.int .i64 x) (.int .i64 y)).run P w = .ok (x == y) w := fun t' u x y => run_equalIn_int w 9998 t' .i64 .i64 x y u
  have q : ∀ (t' : TypeId) (u : P.underlying t' = some (.int .i64)) (x y : Int) (o : Nat) (z : Int) (ho : (#[Value.int .i64 x, Value.int .i64 y] : Array Value)[o]? = some (.int .i64 z)), (part t' #[.int .i64 x, .int .i64 y] o).run P w = .ok (.int .i64 z) w := fun t' u x y o z ho => by
    simp [part, isAgg, Go.run_underlying u, ho]
  have q1 := q _ u1 a b 0 a rfl
  have q2 := q _ u1 c e 0 c rfl
  have q3 := q _ u2 a b 1 b rfl
  have q4 := q _ u2 c e 1 e rfl
  simp only [Op.eqFields, if_pos n1, if_pos n2, Sem.run_bind, o1, o2, q1, q2, Result.andThen_ok, p _ u1]
  by_cases e1 : a = c
  · subst e1
    by_cases e2 : b = e
    · subst e2; simp [q3, p _ u2]
    · simp [e2, q3, q4, p _ u2]
  · simp [e1]
section
variable {P : Program} {n : Nat} {l : List (Nat × Value)} {E : World} {L Ls : List Heaplet} {X Y : Act → World → Prop} {d : Nat} {t t' ty : TypeId} {x y : Operand} {a b c e : Int}
theorem op_eqP {pos : _} {aft : _} {g : _} (s : NxF P n l E L Ls ⟨some d, .binOp .eql t x y t', ty, pos, aft, g⟩ X Y) (hp : pairInts P t = true) (ht : P.underlying t = some (.struct (P.fieldsOf t))) (hx : ev l x = some (.agg #[.int .i64 a, .int .i64 b])) (hy : ev l y = some (.agg #[.int .i64 c, .int .i64 e])) (hn : Nat.ble (d + 1) n = true)
    (h : At n ((d, .bool (decide (a = c ∧ b = e))) :: l) E L Y) : At n l E L X :=
  op_bin s hx hy (fun w => eqGuard_agg (pairInts_spec hp).1 w) (fun w => by
    rw [run_eql_struct, pair_eq hp ht]; rfl) hn h
theorem op_neP {pos : _} {aft : _} {g : _} (s : NxF P n l E L Ls ⟨some d, .binOp .neq t x y t', ty, pos, aft, g⟩ X Y) (hp : pairInts P t = true) (ht : P.underlying t = some (.struct (P.fieldsOf t))) (hx : ev l x = some (.agg #[.int .i64 a, .int .i64 b])) (hy : ev l y = some (.agg #[.int .i64 c, .int .i64 e])) (hn : Nat.ble (d + 1) n = true)
    (h : At n ((d, .bool (!decide (a = c ∧ b = e))) :: l) E L Y) : At n l E L X :=
  op_bin s hx hy (fun w => eqGuard_agg (pairInts_spec hp).1 w) (fun w => by
    rw [run_neq_struct, pair_eq hp ht]; rfl) hn h
end
end Go.Proofs.YtlkjfbfenpkmhaaDoor
/- quarrylaw04.wakes. No condition. -/
namespace Go.Proofs.YtlkjfbfenpkmhaaDoor
set_option linter.unusedVariables false
set_option linter.unusedSimpArgs false
open Go Go.RowKit
theorem WkBytes_f : Fn Tryd.prog 11 #[str [48, 120, 48, 48, 102, 70]] [] [] (fun v L => ∃ M a c, v = .tuple #[.slice a 2 c, faultV 0 0] ∧ L = [M] ∧ Row M 5 1 a 2 c (u8s [0, 255])) := by
  have h := FBytes_f [48, 120, 48, 48, 102, 70] (by decide)
  rw [show bytesR [48, 120, 48, 48, 102, 70] = ([0, 255], 0, 0) by decide +kernel] at h
  exact h
theorem WkNumber_f : Fn Tryd.prog 17 #[str [48, 120, 49, 102]] [] [] (fun v L => v = .tuple #[wo 31, faultV 0 0] ∧ L = []) := by
  have h := FNumber_f [48, 120, 49, 102] (by decide)
  rw [show numR [48, 120, 49, 102] = (31, 0, 0) by decide +kernel] at h
  exact h
theorem WkText_f {N : Heaplet} {a : Option Addr} {c : Nat} (h : RSl N 1 a 2 c (u8s [0, 255])) : Fn Tryd.prog 9 #[.slice a 2 c] [] [N] (fun v L => v = str [48, 120, 48, 48, 102, 102] ∧ L = []) := by
  have := FText_f h (by decide)
  rw [show hexT [0, 255] = [48, 120, 48, 48, 102, 102] by decide +kernel] at this
  exact this
theorem WkQuant_f : Fn Tryd.prog 25 #[.agg #[.int .u64 255, .int .u64 0, .int .u64 0, .int .u64 0]] [] [] (fun v L => v = str [48, 120, 102, 102] ∧ L = []) := by
  have h := FQuant_f (x := (255 : UInt64).toNat) (by decide)
  rw [wo_small, show quantT (255 : UInt64).toNat = [48, 120, 102, 102] by decide +kernel] at h
  exact h
set_option maxRecDepth 100000 in
theorem HWakes_f : Fn Tryd.prog 10 #[] [] [] (fun v L => v = .bool true ∧ L = []) := by
  refine Fn.enter (vs := []) Tryd.func10 rfl rfl rfl ?_
  intro E R hR
  change At _ _ E [R] _
  refine At.seq fun K1 hk_1 => ?_
  refine At.region ?_
  refine op_assign (nxlf rfl) rfl rfl ?_
  refine At.opsNil ?_
  refine At.norm (hk_1 ?_)
  refine At.seq fun K2 hk_2 => ?_
  refine At.region ?_
  refine op_callA (nxla rfl) (.cons rfl .nil) (WkBytes_f) Tryd.func11 rfl rfl (by simp) rfl ?_
  rintro v6 L6 ⟨N6, a6, c6, rfl, rfl, r6⟩
  change At _ _ _ [N6, R] _
  refine op_move (nxlf rfl) rfl rfl ?_
  refine op_extract (nxlf rfl) rfl rfl rfl ?_
  refine op_extract (nxlf rfl) rfl rfl rfl ?_
  refine op_alloc (nxla rfl) ze30 rfl (fun N2 b2 B2 => ?_)
  change Blk N2 b2 _ [.int .i64 0, .int .i64 0] at B2
  refine op_assign (nxlf rfl) rfl rfl ?_
  refine op_store (nxl rfl) sz30 rfl rfl rfl rfl rfl B2 (by simp) sel0 (fun N2 B2 => ?_)
  simp only [setL, List.set] at B2
  refine At.opsNil ?_
  refine At.norm (hk_2 ?_)
  refine At.seq fun K3 hk_3 => ?_
  refine At.region ?_
  refine op_callA (nxla rfl) (.cons rfl .nil) (WkNumber_f) Tryd.func17 rfl rfl (by simp) rfl ?_
  rintro v10 L10 ⟨rfl, rfl⟩
  change At _ _ _ [N2, N6, R] _
  refine op_move (nxlf rfl) rfl rfl ?_
  refine op_extract (nxlf rfl) rfl rfl rfl ?_
  refine op_extract (nxlf rfl) rfl rfl rfl ?_
  refine op_alloc (nxla rfl) ze46 rfl (fun N3 b3 B3 => ?_)
  change Blk N3 b3 _ [.int .u64 0, .int .u64 0, .int .u64 0, .int .u64 0] at B3
  refine op_alloc (nxla rfl) ze30 rfl (fun N4 b4 B4 => ?_)
  change Blk N4 b4 _ [.int .i64 0, .int .i64 0] at B4
  refine op_store (nxl rfl) sz46 rfl rfl rfl rfl rfl B3 (by simp) sel1 (fun N3 B3 => ?_)
  rw [setL_whole (by simp)] at B3
  refine op_store (nxl rfl) sz30 rfl rfl rfl rfl rfl B4 (by simp) sel1 (fun N4 B4 => ?_)
  simp only [setL, List.set] at B4
  refine At.opsNil ?_
  refine At.norm (hk_3 ?_)
  refine At.seq fun K4 hk_4 => ?_
  refine At.region ?_
  refine op_loadAggB (ds := [_, _]) (nxlf rfl) ag30 rfl B2 rfl rfl mem2 rfl ?_
  refine op_build (out := [.int .i64 0, .int .i64 0]) (nxlf rfl) ze30 pl30 .nil rfl rfl ?_
  refine op_eqP (nxlf rfl) (by kernel_rfl) (by kernel_rfl) rfl rfl rfl ?_
  change At _ ((15, .bool true) :: _) _ _ _
  refine op_move (nxlf rfl) rfl rfl ?_
  refine op_move (nxgf rfl rfl rfl rfl) rfl rfl ?_
  have s6 := r6.rsl
  refine op_str (nxgf rfl rfl rfl rfl) Tryd.underlying22 Tryd.underlying5 Tryd.underlying9 rfl (by assumption) (by first | exact mem0 | exact mem1 | exact mem2 | exact mem3 | exact mem4 | exact mem5 | exact mem6 | exact mem7 | exact mem8 | exact mem9) rfl ?_
  refine op_eqS (b := [0, 255]) (nxgf rfl rfl rfl rfl) rfl rfl rfl ?_
  change At _ ((19, .bool true) :: _) _ _ _
  refine op_pickT (nxlf rfl) rfl rfl rfl ?_
  refine op_move (nxlf rfl) rfl rfl ?_
  refine op_loadAggB (ds := [_, _]) (nxgf rfl rfl rfl rfl) ag30 rfl B4 rfl rfl mem0 rfl ?_
  refine op_loadAggB (ds := [_, _]) (nxgf rfl rfl rfl rfl) ag30 rfl B2 rfl rfl mem2 rfl ?_
  refine op_eqP (nxgf rfl rfl rfl rfl) (by kernel_rfl) (by kernel_rfl) rfl rfl rfl ?_
  change At _ ((24, .bool true) :: _) _ _ _
  refine op_pickT (nxlf rfl) rfl rfl rfl ?_
  refine op_move (nxlf rfl) rfl rfl ?_
  refine op_loadAggB (ds := u64s (wl 31)) (nxgf rfl rfl rfl rfl) ag46 rfl B3 (by first | (rw [List.drop_zero, List.take_of_length_le (by first | (simp; done) | (simp; omega))]; done) | rfl) (by first | (simp; done) | (simp; omega)) mem1 rfl ?_
  refine op_buildA (out := [_, .int .u64 0, .int .u64 0, .int .u64 0]) (nxgf rfl rfl rfl rfl) ze46 ae46 (.cons rfl .nil) rfl rfl ?_
  refine op_eqW (a := wl 31) (b := [31, 0, 0, 0]) (nxgf rfl rfl rfl rfl) ae46 Tryd.underlying44 (by kernel_rfl) rfl rfl rfl rfl rfl ?_
  change At _ ((29, .bool true) :: _) _ _ _
  refine op_pickT (nxlf rfl) rfl rfl rfl ?_
  refine op_move (nxlf rfl) rfl rfl ?_
  refine op_lit (nxga rfl rfl rfl rfl) Tryd.underlying22 ze5 sz5 (.cons rfl (.cons rfl .nil)) rfl rfl (by simp [Value.cells]) rfl rfl rfl (fun N32 a32 r32 => ?_)
  simp only [flatV, List.flatMap_cons, List.flatMap_nil, Value.cells, List.append_nil, List.cons_append, List.nil_append] at r32
  have s32 := r32.rsl
  change Row N32 _ 1 a32 2 2 (u8s [0, 255]) at r32
  have s32 := r32.rsl
  refine op_callA (nxga rfl rfl rfl rfl) (.cons rfl .nil) (WkText_f s32) Tryd.func9 rfl rfl (by simp) rfl ?_
  rintro v33 L33 ⟨rfl, rfl⟩
  change At _ _ _ [N32, N4, N3, N2, N6, R] _
  refine op_eqS (b := [48, 120, 48, 48, 102, 102]) (nxgf rfl rfl rfl rfl) rfl rfl rfl ?_
  change At _ ((34, .bool true) :: _) _ _ _
  refine op_pickT (nxlf rfl) rfl rfl rfl ?_
  refine op_move (nxlf rfl) rfl rfl ?_
  refine op_buildA (out := [_, .int .u64 0, .int .u64 0, .int .u64 0]) (nxgf rfl rfl rfl rfl) ze46 ae46 (.cons rfl .nil) rfl rfl ?_
  refine op_callA (nxga rfl rfl rfl rfl) (.cons rfl .nil) (WkQuant_f) Tryd.func25 rfl rfl (by simp) rfl ?_
  rintro v38 L38 ⟨rfl, rfl⟩
  change At _ _ _ [N32, N4, N3, N2, N6, R] _
  refine op_eqS (b := [48, 120, 102, 102]) (nxgf rfl rfl rfl rfl) rfl rfl rfl ?_
  change At _ ((39, .bool true) :: _) _ _ _
  refine op_pickT (nxlf rfl) rfl rfl rfl ?_
  refine op_assign (nxlf rfl) rfl rfl ?_
  refine At.opsNil ?_
  refine At.norm (hk_4 ?_)
  refine At.ret (?_)
  refine At.sub (L' := [R]) (.cons _ (.cons _ (.cons _ (.cons _ (.cons _ (.cons_cons _ (.slnil))))))) ?_
  refine At.ret1 (L1 := []) rfl (.tmp rfl .nil) (.refl _) (.refl _) ?_
  exact ⟨rfl, rfl⟩
end Go.Proofs.YtlkjfbfenpkmhaaDoor
/- The engine, words told apart. For whatever program. No condition. -/
namespace Go.Proofs.YtlkjfbfenpkmhaaDoor
set_option linter.unusedVariables false
set_option linter.unusedSimpArgs false
open Go Go.RowKit
section
variable {P : Program} {n : Nat} {l : List (Nat × Value)} {E : World} {L Ls : List Heaplet} {X Y : Act → World → Prop} {d : Nat} {t t' ty e : TypeId} {x y : Operand}
theorem op_neW {a b : List UInt64} {k : Nat} {pos : _} {aft : _} {g : _} (s : NxF P n l E L Ls ⟨some d, .binOp .neq t x y t', ty, pos, aft, g⟩ X Y) (ht : aelt P t = some (k, e, 1)) (he : P.underlying e = some (.int .u64)) (hg : P.eqGuardType P.depth t = false) (hx : ev l x = some (.agg (u64s a).toArray)) (hy : ev l y = some (.agg (u64s b).toArray)) (ha : a.length = k) (hb : b.length = k) (hn : Nat.ble (d + 1) n = true) (h : At n ((d, .bool (decide (a ≠ b))) :: l) E L Y) : At n l E L X := by
  obtain ⟨hu, i, hi, hsz⟩ := aelt_spec ht
  exact op_bin s hx hy (fun w => eqGuard_agg hg w) (fun w => by
    rw [run_neq_struct, run_equalIn_words w 9998 t e k hu he (fun w => by rw [run_sizeOf hi, hsz]) a b ha hb]
    simp only [Result.andThen_ok, show (!(a == b)) = decide (a ≠ b) from by rw [Bool.eq_iff_iff]; simp]) hn h
end
end Go.Proofs.YtlkjfbfenpkmhaaDoor
/- The engine, arrays of bytes compared. For whatever program. No condition. -/
namespace Go.Proofs.YtlkjfbfenpkmhaaDoor
set_option linter.unusedVariables false
set_option linter.unusedSimpArgs false
open Go Go.RowKit
theorem all_range8 : ∀ (xs ys : List UInt8), xs.length = ys.length → ((List.range xs.length).all fun i => xs.getD i 0 == ys.getD i 0) = (xs == ys)
  | [], [], _ => rfl
  | x :: xs, y :: ys, h => by
    have ih := all_range8 xs ys (by simpa using h)
    rw [List.length_cons, List.range_succ_eq_map, List.all_cons, List.all_map]
    simp only [List.getD_cons_zero, Function.comp_def, List.getD_cons_succ, ih]
    simp [List.cons_beq_cons]
  | [], _ :: _, h => by simp at h
  | _ :: _, [], h => by simp at h
section
variable {P : Program}
theorem run_equalIn_bytes8 (w : World) (d : Nat) (t e : TypeId) (n : Nat) (ht : P.underlying t = some (.array n e)) (he : P.underlying e = some (.int .u8)) (hsz : ∀ w, (sizeOf e).run P w = .ok 1 w)
    (xs ys : List UInt8) (hx : xs.length = n) (hy : ys.length = n) :
    (Op.equalIn (d + 2) t (.agg (u8s xs).toArray) (.agg (u8s ys).toArray)).run P w = .ok (xs == ys) w := by
  rw [← all_range8 xs ys (hx.trans hy.symm), hx, List.range_eq_range', Op.equalIn]
  simp only [Sem.run_bind, Go.run_underlying ht, Result.andThen_ok, hsz, Std.Legacy.Range.forIn_eq_forIn_range', Std.Legacy.Range.size, Nat.sub_zero, Nat.add_sub_cancel, Nat.div_one]
  have hl : ∀ i ∈ List.range' 0 n 1, i < n := fun i hi => by simpa using (List.mem_range'_1.1 hi).2
  generalize List.range' 0 n 1 = l at hl ⊢
  induction l with
  | nil => simp
  | cons i l ih =>
    have hi : i < n := hl i (by simp)
    have px : (part e (u8s xs).toArray (i * 1)).run P w = .ok (.int .u8 ((xs.getD i 0).toNat : Int)) w := by
      simp [part, isAgg, Go.run_underlying he, u8s, vb, List.getD, List.getElem?_eq_getElem (show i < xs.length by omega)]
    have py : (part e (u8s ys).toArray (i * 1)).run P w = .ok (.int .u8 ((ys.getD i 0).toNat : Int)) w := by
      simp [part, isAgg, Go.run_underlying he, u8s, vb, List.getD, List.getElem?_eq_getElem (show i < ys.length by omega)]
    have pe : (Op.equalIn (d + 1) e (.int .u8 ((xs.getD i 0).toNat : Int)) (.int .u8 ((ys.getD i 0).toNat : Int))).run P w = .ok (xs.getD i 0 == ys.getD i 0) w := by
      rw [run_equalIn_int w d e .u8 .u8 _ _ he]
      congr 1
      rw [Bool.eq_iff_iff]
      simp [← UInt8.toNat_inj]
      omega
    simp only [List.forIn_cons, Sem.run_bind, px, py, pe, Result.andThen_ok, List.all_cons]
    cases hb : (xs.getD i 0 == ys.getD i 0)
    · simp
    · simp only [Bool.not_true, Bool.false_eq_true, if_false, Sem.run_pure, Result.andThen_ok, Bool.true_and]
      exact ih fun j hj => hl j (by simp [hj])
variable {n : Nat} {l : List (Nat × Value)} {E : World} {L Ls : List Heaplet} {X Y : Act → World → Prop} {d : Nat} {t t' ty e : TypeId} {x y : Operand}
theorem op_eqW8 {a b : List UInt8} {k : Nat} {pos : _} {aft : _} {g : _} (s : NxF P n l E L Ls ⟨some d, .binOp .eql t x y t', ty, pos, aft, g⟩ X Y) (ht : aelt P t = some (k, e, 1)) (he : P.underlying e = some (.int .u8)) (hg : P.eqGuardType P.depth t = false) (hx : ev l x = some (.agg (u8s a).toArray)) (hy : ev l y = some (.agg (u8s b).toArray)) (ha : a.length = k) (hb : b.length = k) (hn : Nat.ble (d + 1) n = true) (h : At n ((d, .bool (decide (a = b))) :: l) E L Y) : At n l E L X := by
  obtain ⟨hu, i, hi, hsz⟩ := aelt_spec ht
  exact op_bin s hx hy (fun w => eqGuard_agg hg w) (fun w => by
    rw [run_eql_struct, run_equalIn_bytes8 w 9998 t e k hu he (fun w => by rw [run_sizeOf hi, hsz]) a b ha hb]
    simp only [Result.andThen_ok, show (a == b) = decide (a = b) from by rw [Bool.eq_iff_iff]; simp]) hn h
end
end Go.Proofs.YtlkjfbfenpkmhaaDoor
/- The engine, arrays of bytes told apart. For whatever program. No condition. -/
namespace Go.Proofs.YtlkjfbfenpkmhaaDoor
set_option linter.unusedVariables false
set_option linter.unusedSimpArgs false
open Go Go.RowKit
section
variable {P : Program} {n : Nat} {l : List (Nat × Value)} {E : World} {L Ls : List Heaplet} {X Y : Act → World → Prop} {d : Nat} {t t' ty e : TypeId} {x y : Operand}
theorem op_neW8 {a b : List UInt8} {k : Nat} {pos : _} {aft : _} {g : _} (s : NxF P n l E L Ls ⟨some d, .binOp .neq t x y t', ty, pos, aft, g⟩ X Y) (ht : aelt P t = some (k, e, 1)) (he : P.underlying e = some (.int .u8)) (hg : P.eqGuardType P.depth t = false) (hx : ev l x = some (.agg (u8s a).toArray)) (hy : ev l y = some (.agg (u8s b).toArray)) (ha : a.length = k) (hb : b.length = k) (hn : Nat.ble (d + 1) n = true) (h : At n ((d, .bool (decide (a ≠ b))) :: l) E L Y) : At n l E L X := by
  obtain ⟨hu, i, hi, hsz⟩ := aelt_spec ht
  exact op_bin s hx hy (fun w => eqGuard_agg hg w) (fun w => by
    rw [run_neq_struct, run_equalIn_bytes8 w 9998 t e k hu he (fun w => by rw [run_sizeOf hi, hsz]) a b ha hb]
    simp only [Result.andThen_ok, show (!(a == b)) = decide (a ≠ b) from by rw [Bool.eq_iff_iff]; simp]) hn h
end
end Go.Proofs.YtlkjfbfenpkmhaaDoor
