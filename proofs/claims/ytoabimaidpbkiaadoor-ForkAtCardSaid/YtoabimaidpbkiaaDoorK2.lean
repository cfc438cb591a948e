/- Several texts in one: see the remarks ahead of each part. No condition but those told there. -/
import Derived.Test.YtoabimaidpbkiaaDoorK1
/- quarrylaw13.Twin: a plan in new memory. No condition. -/
namespace Go.Proofs.YtoabimaidpbkiaaDoor
set_option linter.unusedVariables false
set_option linter.unusedSimpArgs false
open Go Go.RowKit
theorem take_flat {fr : List (List UInt8)} (h20 : ∀ a ∈ fr, a.length = 20) (k : Nat) : (fr.flatMap u8s).take (k * 20) = (fr.take k).flatMap u8s := by
  induction fr generalizing k with
  | nil => simp
  | cons a t ih =>
    have ha : (u8s a).length = 20 := by rw [u8s_len]; exact h20 a (List.mem_cons_self ..)
    cases k with
    | zero => simp
    | succ k =>
      rw [List.flatMap_cons, List.take_succ_cons, List.flatMap_cons, List.take_append, ha, List.take_of_length_le (by omega), show (k + 1) * 20 - 20 = k * 20 by omega, ih (fun b hb => h20 b (List.mem_cons_of_mem _ hb))]
theorem one_flat (fr : List (List UInt8)) : ∀ u ∈ fr.flatMap u8s, u.oneCell' = true := by
  intro u hu
  obtain ⟨a, _, h⟩ := List.mem_flatMap.1 hu
  exact one_u8s a u h
section
variable {N : Heaplet} {ch dao : UInt64} {bl ti : List UInt64} {ao : Option Addr} {n cap : Nat} {tw : List UInt8} {fr : List (List UInt8)}
set_option maxRecDepth 100000 in
set_option maxHeartbeats 2000000 in
theorem FTwin_f (hb : bl.length = 14) (ht : ti.length = 2) (ho : tw.length = 20) (hA : RSl N 20 ao n cap (fr.flatMap u8s)) (hfn : fr.length = n) (h20 : ∀ a ∈ fr, a.length = 20) : Fn Tryd.prog 17 #[.agg (cfg ch dao bl ti ao n cap tw).toArray] [] [N] (fun v L => ∃ M a k c, v = .agg (cfg ch dao bl ti a k c tw).toArray ∧ L = [M] ∧ Row M 34 20 a k c ((fr.take 40).flatMap u8s) ∧ (fr.take 40).length = k) := by
  have hcap := hA.cap63
  have hl : ∀ (a : Option Addr) (k c : Nat), (cfg ch dao bl ti a k c tw).length = 39 := fun a k c => cfg_len hb ht ho
  obtain ⟨q, hq⟩ : ∃ q, q = fr.take 40 := ⟨_, rfl⟩
  rw [← hq]
  have hql : q.length = min 40 n := by rw [hq, List.length_take, hfn]
  refine Fn.enter (vs := [.agg (cfg ch dao bl ti ao n cap tw).toArray]) Tryd.func17 rfl rfl rfl ?_
  intro E R hR
  have hA := hA.le (hR N (by simp))
  change At _ _ E [R] _
  refine At.seq fun K1 hk_1 => ?_
  refine At.region ?_
  refine op_box (nxla rfl) rfl rfl rfl (fun N1 b1 B1 => ?_)
  change Blk N1 b1 _ (cfg ch dao bl ti ao n cap tw) at B1
  refine op_alloc (nxla rfl) ze42 rfl (fun N2 b2 B2 => ?_)
  change Blk N2 b2 _ [.int .u64 0, .int .u64 0, .int .u64 0, .int .u64 0, .int .u64 0, .int .u64 0, .int .u64 0, .int .u64 0, .int .u64 0, .int .u64 0, .int .u64 0, .int .u64 0, .int .u64 0, .int .u64 0, .int .u64 0, .int .u64 0, .int .u64 0, .int .u64 0, .slice none 0 0, .int .u8 0, .int .u8 0, .int .u8 0, .int .u8 0, .int .u8 0, .int .u8 0, .int .u8 0, .int .u8 0, .int .u8 0, .int .u8 0, .int .u8 0, .int .u8 0, .int .u8 0, .int .u8 0, .int .u8 0, .int .u8 0, .int .u8 0, .int .u8 0, .int .u8 0, .int .u8 0] at B2
  refine At.opsNil ?_
  refine At.norm (hk_1 ?_)
  refine At.seq fun K2 hk_2 => ?_
  refine At.region ?_
  refine op_fieldAddr (nxlf rfl) fl42_4 rfl rfl ?_
  refine op_loadB (nxlf rfl) sc40 rfl B1 (by first | rfl | exact cfg_from hb ht) mem1 rfl ?_
  refine op_assign (nxlf rfl) rfl rfl ?_
  refine At.opsNil ?_
  refine At.norm (hk_2 ?_)
  refine At.seq fun K3 hk_3 => ?_
  refine At.seq fun K4 hk_4 => ?_
  refine At.region ?_
  refine op_move (nxlf rfl) rfl rfl ?_
  refine op_lenS (nxlf rfl) se40 rfl rfl ?_
  refine op_gtr (nxlf rfl) rfl rfl rfl ?_
  refine At.opsNil ?_
  refine At.norm (hk_4 ?_)
  refine At.condP rfl (fun c8 => ?_) (fun c8 => ?_)
  · have sX : RSl R 20 ao 40 cap (q.flatMap u8s) := by
      have := hA.take (hi := 40) (m := cap) (by omega) (by omega) (by omega)
      rw [take_flat h20, ← hq] at this
      exact this
    refine At.region ?_
    refine op_move (nxlf rfl) rfl rfl ?_
    refine op_slice0 (nxlf rfl) se40 rfl (.some rfl (show _ = (((40 : Nat)) : Int) from by omega)) .none (by omega) (by omega) (by simp) rfl ?_
    refine op_assign (nxlf rfl) rfl rfl ?_
    refine At.opsNil ?_
    refine At.norm (hk_3 ?_)
    refine At.seq fun K5 hk_5 => ?_
    refine At.region ?_
    refine op_lit (nxla rfl) Tryd.underlying40 ze34 sz34 .nil rfl rfl (by simp [Value.cells]) rfl rfl rfl (fun N11 a11 r11 => ?_)
    simp only [flatV, List.flatMap_cons, List.flatMap_nil, Value.cells, List.append_nil, List.cons_append, List.nil_append] at r11
    have s11 := r11.rsl
    refine op_move (nxlf rfl) rfl rfl ?_
    refine op_append (nxl rfl) Tryd.underlying40 Tryd.underlying40 te34 rfl rfl r11 sX (by first | exact mem0 | exact mem1 | exact mem2 | exact mem3 | exact mem4 | exact mem5 | exact mem6 | exact mem7 | exact mem8 | exact mem9) (one_flat q) (by omega) (by omega) sel0 rfl (fun N13 a13 p13 r13 => ?_)
    have s13 := r13.rsl
    refine op_fieldAddr (nxlf rfl) fl42_4 rfl rfl ?_
    refine op_store (nxl rfl) sz40 rfl rfl rfl rfl rfl B1 (by rw [hl]; simp) sel2 (fun N1 B1 => ?_)
    rw [cfg_set hb ht] at B1
    refine At.opsNil ?_
    refine At.norm (hk_5 ?_)
    refine At.seq fun K6 hk_6 => ?_
    refine At.region ?_
    refine op_loadAggB (ds := cfg ch dao bl ti a13 _ p13 tw) (nxlf rfl) ag42 rfl B1 (cfg_all hb ht ho) (hl _ _ _) mem0 rfl ?_
    refine op_store (nxl rfl) sz42 rfl rfl (cells_agg _) (hl _ _ _) cfg_one B2 (by rw [hl]; simp) sel2 (fun N2 B2 => ?_)
    rw [setL_all (hl _ _ _) rfl] at B2
    refine At.opsNil ?_
    refine At.norm (hk_6 ?_)
    refine At.ret (?_)
    refine At.sub (L' := [N2, N13, R]) (.cons_cons _ (.cons _ (.cons_cons _ (.cons_cons _ (.slnil))))) ?_
    refine At.ret1 (L1 := [N13]) rfl (.cell rfl (res_agg (ds := cfg ch dao bl ti a13 _ p13 tw) ag42 B2 (cfg_all hb ht ho) (hl _ _ _) mem0) .nil) (.cons _ (.refl _)) (.refl _) ?_
    exact ⟨N13, a13, _, p13, rfl, rfl, r13, by omega⟩
  · have sX : RSl R 20 ao n cap (q.flatMap u8s) := by
      rw [hq, List.take_of_length_le (by omega)]
      exact hA
    refine At.skip ?_
    refine At.norm (hk_3 ?_)
    refine At.seq fun K7 hk_7 => ?_
    refine At.region ?_
    refine op_lit (nxla rfl) Tryd.underlying40 ze34 sz34 .nil rfl rfl (by simp [Value.cells]) rfl rfl rfl (fun N11 a11 r11 => ?_)
    simp only [flatV, List.flatMap_cons, List.flatMap_nil, Value.cells, List.append_nil, List.cons_append, List.nil_append] at r11
    have s11 := r11.rsl
    refine op_move (nxlf rfl) rfl rfl ?_
    refine op_append (nxl rfl) Tryd.underlying40 Tryd.underlying40 te34 rfl rfl r11 sX (by first | exact mem0 | exact mem1 | exact mem2 | exact mem3 | exact mem4 | exact mem5 | exact mem6 | exact mem7 | exact mem8 | exact mem9) (one_flat q) (by omega) (by omega) sel0 rfl (fun N13 a13 p13 r13 => ?_)
    have s13 := r13.rsl
    refine op_fieldAddr (nxlf rfl) fl42_4 rfl rfl ?_
    refine op_store (nxl rfl) sz40 rfl rfl rfl rfl rfl B1 (by rw [hl]; simp) sel2 (fun N1 B1 => ?_)
    rw [cfg_set hb ht] at B1
    refine At.opsNil ?_
    refine At.norm (hk_7 ?_)
    refine At.seq fun K8 hk_8 => ?_
    refine At.region ?_
    refine op_loadAggB (ds := cfg ch dao bl ti a13 _ p13 tw) (nxlf rfl) ag42 rfl B1 (cfg_all hb ht ho) (hl _ _ _) mem0 rfl ?_
    refine op_store (nxl rfl) sz42 rfl rfl (cells_agg _) (hl _ _ _) cfg_one B2 (by rw [hl]; simp) sel2 (fun N2 B2 => ?_)
    rw [setL_all (hl _ _ _) rfl] at B2
    refine At.opsNil ?_
    refine At.norm (hk_8 ?_)
    refine At.ret (?_)
    refine At.sub (L' := [N2, N13, R]) (.cons_cons _ (.cons _ (.cons_cons _ (.cons_cons _ (.slnil))))) ?_
    refine At.ret1 (L1 := [N13]) rfl (.cell rfl (res_agg (ds := cfg ch dao bl ti a13 _ p13 tw) ag42 B2 (cfg_all hb ht ho) (hl _ _ _) mem0) .nil) (.cons _ (.refl _)) (.refl _) ?_
    exact ⟨N13, a13, _, p13, rfl, rfl, r13, by omega⟩
end
end Go.Proofs.YtoabimaidpbkiaaDoor
/- quarrylaw13.ForkAt answers true. Condition: the table of white space is laid. -/
namespace Go.Proofs.YtoabimaidpbkiaaDoor
set_option linter.unusedVariables false
set_option linter.unusedSimpArgs false
open Go Go.RowKit
section
variable {N : Heaplet} {ch dao : UInt64} {bl ti : List UInt64} {ao : Option Addr} {n cap : Nat} {tw : List UInt8} {fr : List (List UInt8)}
/-- A plan of at most forty accounts in new memory. -/
theorem FTwin_all (hb : bl.length = 14) (ht : ti.length = 2) (ho : tw.length = 20) (hA : RSl N 20 ao n cap (fr.flatMap u8s)) (hfn : fr.length = n) (h20 : ∀ a ∈ fr, a.length = 20) (hle : fr.length ≤ 40) : Fn Tryd.prog 17 #[.agg (cfg ch dao bl ti ao n cap tw).toArray] [] [N] (fun v L => ∃ M a k c, v = .agg (cfg ch dao bl ti a k c tw).toArray ∧ L = [M] ∧ Row M 34 20 a k c (fr.flatMap u8s) ∧ fr.length = k) :=
  (FTwin_f hb ht ho hA hfn h20).mono fun v L hp => by rwa [List.take_of_length_le hle] at hp
set_option maxRecDepth 100000 in
set_option maxHeartbeats 4000000 in
theorem ForkAt_f (hN : TabH N) (hb : bl.length = 14) (ht : ti.length = 2) (ho : tw.length = 20) (hA : RSl N 20 ao n cap (fr.flatMap u8s)) (hfn : fr.length = n) (h20 : ∀ a ∈ fr, a.length = 20) (nu tm : UInt64) : Fn Tryd.prog 5 #[.agg (cfg ch dao bl ti ao n cap tw).toArray, .int .u64 (nu.toNat : Int), .int .u64 (tm.toNat : Int)] [] [N] (fun v L => v = .bool true ∧ L = []) := by
  have hl : ∀ (a : Option Addr) (k c : Nat), (cfg ch dao bl ti a k c tw).length = 39 := fun a k c => cfg_len hb ht ho
  obtain ⟨q, hq⟩ : ∃ q, q = fr.take 40 := ⟨_, rfl⟩
  have hql : q.length ≤ 40 := by rw [hq, List.length_take]; omega
  have hq20 : ∀ a ∈ q, a.length = 20 := fun a ha => h20 a (List.mem_of_mem_take (hq ▸ ha))
  refine Fn.enter (vs := [.agg (cfg ch dao bl ti ao n cap tw).toArray, .int .u64 (nu.toNat : Int), .int .u64 (tm.toNat : Int)]) Tryd.func5 rfl rfl rfl ?_
  intro E R hR
  have hA := hA.le (hR N (by simp))
  have hT := hN.le (hR N (by simp))
  change At _ _ E [R] _
  refine At.seq fun K1 hk_1 => ?_
  refine At.region ?_
  refine op_box (nxla rfl) rfl rfl rfl (fun N3 b3 B3 => ?_)
  change Blk N3 b3 _ (cfg ch dao bl ti ao n cap tw) at B3
  refine op_assign (nxlf rfl) rfl rfl ?_
  refine At.opsNil ?_
  refine At.norm (hk_1 ?_)
  refine At.seq fun K2 hk_2 => ?_
  refine At.region ?_
  refine op_loadAggB (ds := cfg ch dao bl ti ao n cap tw) (nxlf rfl) ag42 rfl B3 (cfg_all hb ht ho) (hl _ _ _) mem0 rfl ?_
  refine op_callA (nxla rfl) (.cons rfl .nil) (FTwin_f hb ht ho hA hfn h20) Tryd.func17 rfl rfl (by simp) rfl ?_
  rintro v13 L13 ⟨M13, a13, k13, c13, rfl, rfl, r13, h13⟩
  change At _ _ _ [M13, N3, R] _
  rw [← hq] at r13 h13; have s13 := r13.rsl
  refine op_alloc (nxla rfl) ze42 rfl (fun N7 b7 B7 => ?_)
  change Blk N7 b7 _ [.int .u64 0, .int .u64 0, .int .u64 0, .int .u64 0, .int .u64 0, .int .u64 0, .int .u64 0, .int .u64 0, .int .u64 0, .int .u64 0, .int .u64 0, .int .u64 0, .int .u64 0, .int .u64 0, .int .u64 0, .int .u64 0, .int .u64 0, .int .u64 0, .slice none 0 0, .int .u8 0, .int .u8 0, .int .u8 0, .int .u8 0, .int .u8 0, .int .u8 0, .int .u8 0, .int .u8 0, .int .u8 0, .int .u8 0, .int .u8 0, .int .u8 0, .int .u8 0, .int .u8 0, .int .u8 0, .int .u8 0, .int .u8 0, .int .u8 0, .int .u8 0, .int .u8 0] at B7
  refine op_store (nxl rfl) sz42 rfl rfl (cells_agg _) (hl _ _ _) cfg_one B7 (by rw [hl]; simp) sel0 (fun N7 B7 => ?_)
  rw [setL_all (hl _ _ _) rfl] at B7
  refine At.opsNil ?_
  refine At.norm (hk_2 ?_)
  refine At.seq fun K3 hk_3 => ?_
  refine At.region ?_
  refine op_loadAggB (ds := cfg ch dao bl ti a13 k13 c13 tw) (nxlf rfl) ag42 rfl B7 (cfg_all hb ht ho) (hl _ _ _) mem0 rfl ?_
  refine op_callA (nxla rfl) (.cons rfl .nil) (FTwin_all hb ht ho s13 h13 hq20 hql) Tryd.func17 rfl rfl (by simp) rfl ?_
  rintro v16 L16 ⟨M16, a16, k16, c16, rfl, rfl, r16, h16⟩
  change At _ _ _ [M16, N7, M13, N3, R] _
  have s16 := r16.rsl
  refine op_move (nxlf rfl) rfl rfl ?_
  refine op_move (nxlf rfl) rfl rfl ?_
  refine op_callA (nxla rfl) (.cons rfl (.cons rfl (.cons rfl .nil))) (FAt_f hb ht ho s16 h16 hq20 nu tm) Tryd.func18 rfl rfl (by simp) rfl ?_
  rintro v19 L19 ⟨rfl, rfl⟩
  change At _ _ _ [M16, N7, M13, N3, R] _
  refine op_move (nxlf rfl) rfl rfl ?_
  refine op_extract (nxlf rfl) rfl rfl rfl ?_
  refine op_extract (nxlf rfl) rfl rfl rfl ?_
  refine op_assign (nxlf rfl) rfl rfl ?_
  refine op_assign (nxlf rfl) rfl rfl ?_
  refine At.opsNil ?_
  refine At.norm (hk_3 ?_)
  refine At.seq fun K4 hk_4 => ?_
  refine At.region ?_
  refine op_loadAggB (ds := cfg ch dao bl ti a13 k13 c13 tw) (nxlf rfl) ag42 rfl B7 (cfg_all hb ht ho) (hl _ _ _) mem1 rfl ?_
  refine op_move (nxlf rfl) rfl rfl ?_
  refine op_move (nxlf rfl) rfl rfl ?_
  refine op_callA (nxla rfl) (.cons rfl (.cons rfl (.cons rfl .nil))) (rAt_f hb ht ho s13 h13 hq20 nu tm) Tryd.func19 rfl rfl (by simp) rfl ?_
  rintro v26 L26 ⟨rfl, rfl⟩
  change At _ _ _ [M16, N7, M13, N3, R] _
  refine op_move (nxlf rfl) rfl rfl ?_
  refine op_extract (nxlf rfl) rfl rfl rfl ?_
  refine op_extract (nxlf rfl) rfl rfl rfl ?_
  refine op_assign (nxlf rfl) rfl rfl ?_
  refine op_assign (nxlf rfl) rfl rfl ?_
  refine At.opsNil ?_
  refine At.norm (hk_4 ?_)
  refine At.seq fun K5 hk_5 => ?_
  refine At.perm sel4 ?_
  refine At.perm sel3 ?_
  refine At.perm sel3 ?_
  refine At.perm sel4 ?_
  refine At.perm sel4 ?_
  refine At.drawnS [N7, M13, R] [4,17] [] [0,3,1,2,4,5,6,7,8,9,10,11,12,13,14,15,16,17,18,19] (by kernel_rfl) (by kernel_rfl) (.cons _ (.cons _ (.refl _))) ?_
  refine op_loadAggB (ds := cfg ch dao bl ti a13 k13 c13 tw) (nxsf rfl rfl rfl) ag42 rfl B7 (cfg_all hb ht ho) (hl _ _ _) mem0 rfl ?_
  refine op_loadAggB (ds := cfg ch dao bl ti a13 k13 c13 tw) (nxsf rfl rfl rfl) ag42 rfl B7 (cfg_all hb ht ho) (hl _ _ _) (by first | exact mem0 | exact mem1 | exact mem2 | exact mem3) rfl ?_
  refine op_callA (Nx.agree (nxsm rfl rfl rfl)) (.cons rfl .nil) (FTwin_all hb ht ho s13 h13 hq20 hql) Tryd.func17 rfl rfl (by simp) rfl ?_
  rintro v30 L30 ⟨M30, a30, k30, c30, rfl, rfl, r30, h30⟩
  change At _ _ _ [M30, M16, N3, N7, M13, R] _
  have s30 := r30.rsl
  refine At.perm sel5 ?_
  refine At.perm sel5 ?_
  refine At.perm sel5 ?_
  refine At.perm sel3 ?_
  refine At.perm sel5 ?_
  refine At.perm sel5 ?_
  refine At.moreS (Lst := [N7, M13, R]) (Lst' := [M30, N7, M13, R]) (.cons _ (.refl _)) (.cons _ (.cons _ (.refl _))) ?_
  refine op_callA (Nx.agree (nxsm rfl rfl rfl)) (.cons rfl .nil) (FCheck_f hb ht ho s30 h30 hq20) Tryd.func20 rfl rfl (by simp) rfl ?_
  rintro v31 L31 ⟨rfl, rfl⟩
  change At _ _ _ [M16, N3, M30, N7, M13, R] _
  refine At.moreS (Lst := [M30, N7, M13, R]) (Lst' := [M30, N7, M13, R]) (.refl _) (.cons _ (.cons _ (.refl _))) ?_
  refine op_callA (Nx.agree (nxss rfl rfl rfl rfl)) (.cons rfl .nil) (rCheck_f hb ht ho s13 h13 hq20) Tryd.func21 rfl rfl (by simp) rfl ?_
  rintro v33 L33 ⟨rfl, rfl⟩
  change At _ _ _ [M16, N3, M30, N7, M13, R] _
  refine At.anyS (.refl _) ?_
  refine op_eql (nxsf rfl rfl rfl) rfl rfl rfl ?_
  refine op_move (nxsf rfl rfl rfl) rfl rfl ?_
  refine At.partP (d := 35) rfl (fun g35 => ?_) (fun g35 => ?_)
  · refine op_move (nxsgf rfl rfl rfl rfl rfl rfl) rfl rfl ?_
    refine op_move (nxsgf rfl rfl rfl rfl rfl rfl) rfl rfl ?_
    refine op_eql (nxsgf rfl rfl rfl rfl rfl rfl) rfl rfl rfl ?_
    refine op_pickT (nxsf rfl rfl rfl) rfl rfl rfl ?_
    refine op_move (nxsf rfl rfl rfl) rfl rfl ?_
    refine At.partP (d := 40) rfl (fun g40 => ?_) (fun g40 => ?_)
    · refine op_move (nxsgf rfl rfl rfl rfl rfl rfl) rfl rfl ?_
      refine op_move (nxsgf rfl rfl rfl rfl rfl rfl) rfl rfl ?_
      refine op_eql (nxsgf rfl rfl rfl rfl rfl rfl) rfl rfl rfl ?_
      refine op_pickT (nxsf rfl rfl rfl) rfl rfl rfl ?_
      refine op_move (nxsf rfl rfl rfl) rfl rfl ?_
      refine At.partP (d := 45) rfl (fun g45 => ?_) (fun g45 => ?_)
      · refine op_callA (Nx.agree (nxsgs rfl rfl rfl rfl rfl rfl rfl)) .nil (Fwakes_f hT) Tryd.func12 rfl rfl (by simp) rfl ?_
        rintro v46 L46 ⟨rfl, rfl⟩
        change At _ _ _ [M16, N3, M30, N7, M13, R] _
        refine At.anyS (.refl _) ?_
        refine op_pickT (nxsf rfl rfl rfl) rfl rfl rfl ?_
        refine op_assign (nxsf rfl rfl rfl) rfl rfl ?_
        refine At.sNil ?_
        refine At.norm (hk_5 ?_)
        refine At.ret (?_)
        refine At.sub (L' := [R]) (.cons _ (.cons _ (.cons _ (.cons _ (.cons _ (.cons_cons _ (.slnil))))))) ?_
        refine At.ret1 (L1 := []) rfl (.tmp rfl .nil) (.refl _) (.refl _) ?_
        exact ⟨rfl, rfl⟩
      · exact absurd rfl g45
    · exact absurd rfl g40
  · exact absurd rfl g35
end
end Go.Proofs.YtoabimaidpbkiaaDoor
