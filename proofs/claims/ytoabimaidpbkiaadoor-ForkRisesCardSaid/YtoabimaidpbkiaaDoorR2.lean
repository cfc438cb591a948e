/- Several texts in one: see the remarks ahead of each part. No condition but those told there. -/
import Derived.Test.YtoabimaidpbkiaaDoorR1
/- quarrylaw13.Twin: a plan in new memory. No condition. -/
namespace Go.Proofs.YtoabimaidpbkiaaDoor
set_option linter.unusedVariables false
set_option linter.unusedSimpArgs false
open Go Go.RowKit
theorem take_flat {fr : List (List UInt8)} (h20 : ∀ a ∈ fr, a.length = 20) (k : Nat) : (fr.flatMap u8s).take (k * 20) = (fr.take k).flatMap u8s := by
  induction fr generalizing k with
  | nil => simp
  | cons a t ih =>
    have ha : (u8s a).length = 20 := by rw [u8s_len]; exact h20 a (List.mem_cons_self ..)
    cases k with
    | zero => simp
    | succ k =>
      rw [List.flatMap_cons, List.take_succ_cons, List.flatMap_cons, List.take_append, ha, List.take_of_length_le (by omega), show (k + 1) * 20 - 20 = k * 20 by omega, ih (fun b hb => h20 b (List.mem_cons_of_mem _ hb))]
theorem one_flat (fr : List (List UInt8)) : ∀ u ∈ fr.flatMap u8s, u.oneCell' = true := by
  intro u hu
  obtain ⟨a, _, h⟩ := List.mem_flatMap.1 hu
  exact one_u8s a u h
section
variable {N : Heaplet} {ch dao : UInt64} {bl ti : List UInt64} {ao : Option Addr} {n cap : Nat} {tw : List UInt8} {fr : List (List UInt8)}
set_option maxRecDepth 100000 in
set_option maxHeartbeats 2000000 in
theorem FTwin_f (hb : bl.length = 14) (ht : ti.length = 2) (ho : tw.length = 20) (hA : RSl N 20 ao n cap (fr.flatMap u8s)) (hfn : fr.length = n) (h20 : ∀ a ∈ fr, a.length = 20) : Fn Tryd.prog 17 #[.agg (cfg ch dao bl ti ao n cap tw).toArray] [] [N] (fun v L => ∃ M a k c, v = .agg (cfg ch dao bl ti a k c tw).toArray ∧ L = [M] ∧ Row M 34 20 a k c ((fr.take 40).flatMap u8s) ∧ (fr.take 40).length = k) := by
  have hcap := hA.cap63
  have hl : ∀ (a : Option Addr) (k c : Nat), (cfg ch dao bl ti a k c tw).length = 39 := fun a k c => cfg_len hb ht ho
  obtain ⟨q, hq⟩ : ∃ q, q = fr.take 40 := ⟨_, rfl⟩
  rw [← hq]
  have hql : q.length = min 40 n := by rw [hq, List.length_take, hfn]
  refine Fn.enter (vs := [.agg (cfg ch dao bl ti ao n cap tw).toArray]) Tryd.func17 rfl rfl rfl ?_
  intro E R hR
  have hA := hA.le (hR N (by simp))
  change At _ _ E [R] _
  refine At.seq fun K1 hk_1 => ?_
  refine At.region ?_
  refine op_box (nxla rfl) rfl rfl rfl (fun N1 b1 B1 => ?_)
  change Blk N1 b1 _ (cfg ch dao bl ti ao n cap tw) at B1
  refine op_alloc (nxla rfl) ze42 rfl (fun N2 b2 B2 => ?_)
  change Blk N2 b2 _ [.int .u64 0, .int .u64 0, .int .u64 0, .int .u64 0, .int .u64 0, .int .u64 0, .int .u64 0, .int .u64 0, .int .u64 0, .int .u64 0, .int .u64 0, .int .u64 0, .int .u64 0, .int .u64 0, .int .u64 0, .int .u64 0, .int .u64 0, .int .u64 0, .slice none 0 0, .int .u8 0, .int .u8 0, .int .u8 0, .int .u8 0, .int .u8 0, .int .u8 0, .int .u8 0, .int .u8 0, .int .u8 0, .int .u8 0, .int .u8 0, .int .u8 0, .int .u8 0, .int .u8 0, .int .u8 0, .int .u8 0, .int .u8 0, .int .u8 0, .int .u8 0, .int .u8 0] at B2
  refine At.opsNil ?_
  refine At.norm (hk_1 ?_)
  refine At.seq fun K2 hk_2 => ?_
  refine At.region ?_
  refine op_fieldAddr (nxlf rfl) fl42_4 rfl rfl ?_
  refine op_loadB (nxlf rfl) sc40 rfl B1 (by first | rfl | exact cfg_from hb ht) mem1 rfl ?_
  refine op_assign (nxlf rfl) rfl rfl ?_
  refine At.opsNil ?_
  refine At.norm (hk_2 ?_)
  refine At.seq fun K3 hk_3 => ?_
  refine At.seq fun K4 hk_4 => ?_
  refine At.region ?_
  refine op_move (nxlf rfl) rfl rfl ?_
  refine op_lenS (nxlf rfl) se40 rfl rfl ?_
  refine op_gtr (nxlf rfl) rfl rfl rfl ?_
  refine At.opsNil ?_
  refine At.norm (hk_4 ?_)
  refine At.condP rfl (fun c8 => ?_) (fun c8 => ?_)
  · have sX : RSl R 20 ao 40 cap (q.flatMap u8s) := by
      have := hA.take (hi := 40) (m := cap) (by omega) (by omega) (by omega)
      rw [take_flat h20, ← hq] at this
      exact this
    refine At.region ?_
    refine op_move (nxlf rfl) rfl rfl ?_
    refine op_slice0 (nxlf rfl) se40 rfl (.some rfl (show _ = (((40 : Nat)) : Int) from by omega)) .none (by omega) (by omega) (by simp) rfl ?_
    refine op_assign (nxlf rfl) rfl rfl ?_
    refine At.opsNil ?_
    refine At.norm (hk_3 ?_)
    refine At.seq fun K5 hk_5 => ?_
    refine At.region ?_
    refine op_lit (nxla rfl) Tryd.underlying40 ze34 sz34 .nil rfl rfl (by simp [Value.cells]) rfl rfl rfl (fun N11 a11 r11 => ?_)
    simp only [flatV, List.flatMap_cons, List.flatMap_nil, Value.cells, List.append_nil, List.cons_append, List.nil_append] at r11
    have s11 := r11.rsl
    refine op_move (nxlf rfl) rfl rfl ?_
    refine op_append (nxl rfl) Tryd.underlying40 Tryd.underlying40 te34 rfl rfl r11 sX (by first | exact mem0 | exact mem1 | exact mem2 | exact mem3 | exact mem4 | exact mem5 | exact mem6 | exact mem7 | exact mem8 | exact mem9) (one_flat q) (by omega) (by omega) sel0 rfl (fun N13 a13 p13 r13 => ?_)
    have s13 := r13.rsl
    refine op_fieldAddr (nxlf rfl) fl42_4 rfl rfl ?_
    refine op_store (nxl rfl) sz40 rfl rfl rfl rfl rfl B1 (by rw [hl]; simp) sel2 (fun N1 B1 => ?_)
    rw [cfg_set hb ht] at B1
    refine At.opsNil ?_
    refine At.norm (hk_5 ?_)
    refine At.seq fun K6 hk_6 => ?_
    refine At.region ?_
    refine op_loadAggB (ds := cfg ch dao bl ti a13 _ p13 tw) (nxlf rfl) ag42 rfl B1 (cfg_all hb ht ho) (hl _ _ _) mem0 rfl ?_
    refine op_store (nxl rfl) sz42 rfl rfl (cells_agg _) (hl _ _ _) cfg_one B2 (by rw [hl]; simp) sel2 (fun N2 B2 => ?_)
    rw [setL_all (hl _ _ _) rfl] at B2
    refine At.opsNil ?_
    refine At.norm (hk_6 ?_)
    refine At.ret (?_)
    refine At.sub (L' := [N2, N13, R]) (.cons_cons _ (.cons _ (.cons_cons _ (.cons_cons _ (.slnil))))) ?_
    refine At.ret1 (L1 := [N13]) rfl (.cell rfl (res_agg (ds := cfg ch dao bl ti a13 _ p13 tw) ag42 B2 (cfg_all hb ht ho) (hl _ _ _) mem0) .nil) (.cons _ (.refl _)) (.refl _) ?_
    exact ⟨N13, a13, _, p13, rfl, rfl, r13, by omega⟩
  · have sX : RSl R 20 ao n cap (q.flatMap u8s) := by
      rw [hq, List.take_of_length_le (by omega)]
      exact hA
    refine At.skip ?_
    refine At.norm (hk_3 ?_)
    refine At.seq fun K7 hk_7 => ?_
    refine At.region ?_
    refine op_lit (nxla rfl) Tryd.underlying40 ze34 sz34 .nil rfl rfl (by simp [Value.cells]) rfl rfl rfl (fun N11 a11 r11 => ?_)
    simp only [flatV, List.flatMap_cons, List.flatMap_nil, Value.cells, List.append_nil, List.cons_append, List.nil_append] at r11
    have s11 := r11.rsl
    refine op_move (nxlf rfl) rfl rfl ?_
    refine op_append (nxl rfl) Tryd.underlying40 Tryd.underlying40 te34 rfl rfl r11 sX (by first | exact mem0 | exact mem1 | exact mem2 | exact mem3 | exact mem4 | exact mem5 | exact mem6 | exact mem7 | exact mem8 | exact mem9) (one_flat q) (by omega) (by omega) sel0 rfl (fun N13 a13 p13 r13 => ?_)
    have s13 := r13.rsl
    refine op_fieldAddr (nxlf rfl) fl42_4 rfl rfl ?_
    refine op_store (nxl rfl) sz40 rfl rfl rfl rfl rfl B1 (by rw [hl]; simp) sel2 (fun N1 B1 => ?_)
    rw [cfg_set hb ht] at B1
    refine At.opsNil ?_
    refine At.norm (hk_7 ?_)
    refine At.seq fun K8 hk_8 => ?_
    refine At.region ?_
    refine op_loadAggB (ds := cfg ch dao bl ti a13 _ p13 tw) (nxlf rfl) ag42 rfl B1 (cfg_all hb ht ho) (hl _ _ _) mem0 rfl ?_
    refine op_store (nxl rfl) sz42 rfl rfl (cells_agg _) (hl _ _ _) cfg_one B2 (by rw [hl]; simp) sel2 (fun N2 B2 => ?_)
    rw [setL_all (hl _ _ _) rfl] at B2
    refine At.opsNil ?_
    refine At.norm (hk_8 ?_)
    refine At.ret (?_)
    refine At.sub (L' := [N2, N13, R]) (.cons_cons _ (.cons _ (.cons_cons _ (.cons_cons _ (.slnil))))) ?_
    refine At.ret1 (L1 := [N13]) rfl (.cell rfl (res_agg (ds := cfg ch dao bl ti a13 _ p13 tw) ag42 B2 (cfg_all hb ht ho) (hl _ _ _) mem0) .nil) (.cons _ (.refl _)) (.refl _) ?_
    exact ⟨N13, a13, _, p13, rfl, rfl, r13, by omega⟩
end
end Go.Proofs.YtoabimaidpbkiaaDoor
/- quarrylaw13.ForkAt answers true. Condition: the table of white space is laid. -/
namespace Go.Proofs.YtoabimaidpbkiaaDoor
set_option linter.unusedVariables false
set_option linter.unusedSimpArgs false
open Go Go.RowKit
section
variable {N : Heaplet} {ch dao : UInt64} {bl ti : List UInt64} {ao : Option Addr} {n cap : Nat} {tw : List UInt8} {fr : List (List UInt8)}
/-- A plan of at most forty accounts in new memory. -/
theorem FTwin_all (hb : bl.length = 14) (ht : ti.length = 2) (ho : tw.length = 20) (hA : RSl N 20 ao n cap (fr.flatMap u8s)) (hfn : fr.length = n) (h20 : ∀ a ∈ fr, a.length = 20) (hle : fr.length ≤ 40) : Fn Tryd.prog 17 #[.agg (cfg ch dao bl ti ao n cap tw).toArray] [] [N] (fun v L => ∃ M a k c, v = .agg (cfg ch dao bl ti a k c tw).toArray ∧ L = [M] ∧ Row M 34 20 a k c (fr.flatMap u8s) ∧ fr.length = k) :=
  (FTwin_f hb ht ho hA hfn h20).mono fun v L hp => by rwa [List.take_of_length_le hle] at hp
set_option maxRecDepth 100000 in
set_option maxHeartbeats 4000000 in
theorem ForkAt_f (hN : TabH N) (hb : bl.length = 14) (ht : ti.length = 2) (ho : tw.length = 20) (hA : RSl N 20 ao n cap (fr.flatMap u8s)) (hfn : fr.length = n) (h20 : ∀ a ∈ fr, a.length = 20) (nu tm : UInt64) : Fn Tryd.prog 5 #[.agg (cfg ch dao bl ti ao n cap tw).toArray, .int .u64 (nu.toNat : Int), .int .u64 (tm.toNat : Int)] [] [N] (fun v L => v = .bool true ∧ L = []) := by
  have hl : ∀ (a : Option Addr) (k c : Nat), (cfg ch dao bl ti a k c tw).length = 39 := fun a k c => cfg_len hb ht ho
  obtain ⟨q, hq⟩ : ∃ q, q = fr.take 40 := ⟨_, rfl⟩
  have hql : q.length ≤ 40 := by rw [hq, List.length_take]; omega
  have hq20 : ∀ a ∈ q, a.length = 20 := fun a ha => h20 a (List.mem_of_mem_take (hq ▸ ha))
  refine Fn.enter (vs := [.agg (cfg ch dao bl ti ao n cap tw).toArray, .int .u64 (nu.toNat : Int), .int .u64 (tm.toNat : Int)]) Tryd.func5 rfl rfl rfl ?_
  intro E R hR
  have hA := hA.le (hR N (by simp))
  have hT := hN.le (hR N (by simp))
  change At _ _ E [R] _
  refine At.seq fun K1 hk_1 => ?_
  refine At.region ?_
  refine op_box (nxla rfl) rfl rfl rfl (fun N3 b3 B3 => ?_)
  change Blk N3 b3 _ (cfg ch dao bl ti ao n cap tw) at B3
  refine op_assign (nxlf rfl) rfl rfl ?_
  refine At.opsNil ?_
  refine At.norm (hk_1 ?_)
  refine At.seq fun K2 hk_2 => ?_
  refine At.region ?_
  refine op_loadAggB (ds := cfg ch dao bl ti ao n cap tw) (nxlf rfl) ag42 rfl B3 (cfg_all hb ht ho) (hl _ _ _) mem0 rfl ?_
  refine op_callA (nxla rfl) (.cons rfl .nil) (FTwin_f hb ht ho hA hfn h20) Tryd.func17 rfl rfl (by simp) rfl ?_
  rintro v13 L13 ⟨M13, a13, k13, c13, rfl, rfl, r13, h13⟩
  change At _ _ _ [M13, N3, R] _
  rw [← hq] at r13 h13; have s13 := r13.rsl
  refine op_alloc (nxla rfl) ze42 rfl (fun N7 b7 B7 => ?_)
  change Blk N7 b7 _ [.int .u64 0, .int .u64 0, .int .u64 0, .int .u64 0, .int .u64 0, .int .u64 0, .int .u64 0, .int .u64 0, .int .u64 0, .int .u64 0, .int .u64 0, .int .u64 0, .int .u64 0, .int .u64 0, .int .u64 0, .int .u64 0, .int .u64 0, .int .u64 0, .slice none 0 0, .int .u8 0, .int .u8 0, .int .u8 0, .int .u8 0, .int .u8 0, .int .u8 0, .int .u8 0, .int .u8 0, .int .u8 0, .int .u8 0, .int .u8 0, .int .u8 0, .int .u8 0, .int .u8 0, .int .u8 0, .int .u8 0, .int .u8 0, .int .u8 0, .int .u8 0, .int .u8 0] at B7
  refine op_store (nxl rfl) sz42 rfl rfl (cells_agg _) (hl _ _ _) cfg_one B7 (by rw [hl]; simp) sel0 (fun N7 B7 => ?_)
  rw [setL_all (hl _ _ _) rfl] at B7
  refine At.opsNil ?_
  refine At.norm (hk_2 ?_)
  refine At.seq fun K3 hk_3 => ?_
  refine At.region ?_
  refine op_loadAggB (ds := cfg ch dao bl ti a13 k13 c13 tw) (nxlf rfl) ag42 rfl B7 (cfg_all hb ht ho) (hl _ _ _) mem0 rfl ?_
  refine op_callA (nxla rfl) (.cons rfl .nil) (FTwin_all hb ht ho s13 h13 hq20 hql) Tryd.func17 rfl rfl (by simp) rfl ?_
  rintro v16 L16 ⟨M16, a16, k16, c16, rfl, rfl, r16, h16⟩
  change At _ _ _ [M16, N7, M13, N3, R] _
  have s16 := r16.rsl
  refine op_move (nxlf rfl) rfl rfl ?_
  refine op_move (nxlf rfl) rfl rfl ?_
  refine op_callA (nxla rfl) (.cons rfl (.cons rfl (.cons rfl .nil))) (FAt_f hb ht ho s16 h16 hq20 nu tm) Tryd.func18 rfl rfl (by simp) rfl ?_
  rintro v19 L19 ⟨rfl, rfl⟩
  change At _ _ _ [M16, N7, M13, N3, R] _
  refine op_move (nxlf rfl) rfl rfl ?_
  refine op_extract (nxlf rfl) rfl rfl rfl ?_
  refine op_extract (nxlf rfl) rfl rfl rfl ?_
  refine op_assign (nxlf rfl) rfl rfl ?_
  refine op_assign (nxlf rfl) rfl rfl ?_
  refine At.opsNil ?_
  refine At.norm (hk_3 ?_)
  refine At.seq fun K4 hk_4 => ?_
  refine At.region ?_
  refine op_loadAggB (ds := cfg ch dao bl ti a13 k13 c13 tw) (nxlf rfl) ag42 rfl B7 (cfg_all hb ht ho) (hl _ _ _) mem1 rfl ?_
  refine op_move (nxlf rfl) rfl rfl ?_
  refine op_move (nxlf rfl) rfl rfl ?_
  refine op_callA (nxla rfl) (.cons rfl (.cons rfl (.cons rfl .nil))) (rAt_f hb ht ho s13 h13 hq20 nu tm) Tryd.func19 rfl rfl (by simp) rfl ?_
  rintro v26 L26 ⟨rfl, rfl⟩
  change At _ _ _ [M16, N7, M13, N3, R] _
  refine op_move (nxlf rfl) rfl rfl ?_
  refine op_extract (nxlf rfl) rfl rfl rfl ?_
  refine op_extract (nxlf rfl) rfl rfl rfl ?_
  refine op_assign (nxlf rfl) rfl rfl ?_
  refine op_assign (nxlf rfl) rfl rfl ?_
  refine At.opsNil ?_
  refine At.norm (hk_4 ?_)
  refine At.seq fun K5 hk_5 => ?_
  refine At.perm sel4 ?_
  refine At.perm sel3 ?_
  refine At.perm sel3 ?_
  refine At.perm sel4 ?_
  refine At.perm sel4 ?_
  refine At.drawnS [N7, M13, R] [4,17] [] [0,3,1,2,4,5,6,7,8,9,10,11,12,13,14,15,16,17,18,19] (by kernel_rfl) (by kernel_rfl) (.cons _ (.cons _ (.refl _))) ?_
  refine op_loadAggB (ds := cfg ch dao bl ti a13 k13 c13 tw) (nxsf rfl rfl rfl) ag42 rfl B7 (cfg_all hb ht ho) (hl _ _ _) mem0 rfl ?_
  refine op_loadAggB (ds := cfg ch dao bl ti a13 k13 c13 tw) (nxsf rfl rfl rfl) ag42 rfl B7 (cfg_all hb ht ho) (hl _ _ _) (by first | exact mem0 | exact mem1 | exact mem2 | exact mem3) rfl ?_
  refine op_callA (Nx.agree (nxsm rfl rfl rfl)) (.cons rfl .nil) (FTwin_all hb ht ho s13 h13 hq20 hql) Tryd.func17 rfl rfl (by simp) rfl ?_
  rintro v30 L30 ⟨M30, a30, k30, c30, rfl, rfl, r30, h30⟩
  change At _ _ _ [M30, M16, N3, N7, M13, R] _
  have s30 := r30.rsl
  refine At.perm sel5 ?_
  refine At.perm sel5 ?_
  refine At.perm sel5 ?_
  refine At.perm sel3 ?_
  refine At.perm sel5 ?_
  refine At.perm sel5 ?_
  refine At.moreS (Lst := [N7, M13, R]) (Lst' := [M30, N7, M13, R]) (.cons _ (.refl _)) (.cons _ (.cons _ (.refl _))) ?_
  refine op_callA (Nx.agree (nxsm rfl rfl rfl)) (.cons rfl .nil) (FCheck_f hb ht ho s30 h30 hq20) Tryd.func20 rfl rfl (by simp) rfl ?_
  rintro v31 L31 ⟨rfl, rfl⟩
  change At _ _ _ [M16, N3, M30, N7, M13, R] _
  refine At.moreS (Lst := [M30, N7, M13, R]) (Lst' := [M30, N7, M13, R]) (.refl _) (.cons _ (.cons _ (.refl _))) ?_
  refine op_callA (Nx.agree (nxss rfl rfl rfl rfl)) (.cons rfl .nil) (rCheck_f hb ht ho s13 h13 hq20) Tryd.func21 rfl rfl (by simp) rfl ?_
  rintro v33 L33 ⟨rfl, rfl⟩
  change At _ _ _ [M16, N3, M30, N7, M13, R] _
  refine At.anyS (.refl _) ?_
  refine op_eql (nxsf rfl rfl rfl) rfl rfl rfl ?_
  refine op_move (nxsf rfl rfl rfl) rfl rfl ?_
  refine At.partP (d := 35) rfl (fun g35 => ?_) (fun g35 => ?_)
  · refine op_move (nxsgf rfl rfl rfl rfl rfl rfl) rfl rfl ?_
    refine op_move (nxsgf rfl rfl rfl rfl rfl rfl) rfl rfl ?_
    refine op_eql (nxsgf rfl rfl rfl rfl rfl rfl) rfl rfl rfl ?_
    refine op_pickT (nxsf rfl rfl rfl) rfl rfl rfl ?_
    refine op_move (nxsf rfl rfl rfl) rfl rfl ?_
    refine At.partP (d := 40) rfl (fun g40 => ?_) (fun g40 => ?_)
    · refine op_move (nxsgf rfl rfl rfl rfl rfl rfl) rfl rfl ?_
      refine op_move (nxsgf rfl rfl rfl rfl rfl rfl) rfl rfl ?_
      refine op_eql (nxsgf rfl rfl rfl rfl rfl rfl) rfl rfl rfl ?_
      refine op_pickT (nxsf rfl rfl rfl) rfl rfl rfl ?_
      refine op_move (nxsf rfl rfl rfl) rfl rfl ?_
      refine At.partP (d := 45) rfl (fun g45 => ?_) (fun g45 => ?_)
      · refine op_callA (Nx.agree (nxsgs rfl rfl rfl rfl rfl rfl rfl)) .nil (Fwakes_f hT) Tryd.func12 rfl rfl (by simp) rfl ?_
        rintro v46 L46 ⟨rfl, rfl⟩
        change At _ _ _ [M16, N3, M30, N7, M13, R] _
        refine At.anyS (.refl _) ?_
        refine op_pickT (nxsf rfl rfl rfl) rfl rfl rfl ?_
        refine op_assign (nxsf rfl rfl rfl) rfl rfl ?_
        refine At.sNil ?_
        refine At.norm (hk_5 ?_)
        refine At.ret (?_)
        refine At.sub (L' := [R]) (.cons _ (.cons _ (.cons _ (.cons _ (.cons _ (.cons_cons _ (.slnil))))))) ?_
        refine At.ret1 (L1 := []) rfl (.tmp rfl .nil) (.refl _) (.refl _) ?_
        exact ⟨rfl, rfl⟩
      · exact absurd rfl g45
    · exact absurd rfl g40
  · exact absurd rfl g35
end
end Go.Proofs.YtoabimaidpbkiaaDoor
/- Later blocks, and the cells of a Rise: plain laws. No condition. -/
namespace Go.Proofs.YtoabimaidpbkiaaDoor
set_option linter.unusedVariables false
set_option linter.unusedSimpArgs false
open Go Go.RowKit
theorem comeB_le {x a b : UInt64} (h : a.toNat ≤ b.toNat) (hc : comeB x a = true) : comeB x b = true := by
  unfold comeB at *
  have := of_decide_eq_true hc
  exact decide_eq_true ⟨by omega, this.2⟩
theorem lastI_le' (f : Nat → Bool) : ∀ k, lastI f k ≤ k
  | 0 => Nat.le_refl _
  | k + 1 => Nat.le_succ_of_le (lastI_le f k)
theorem lastI_mono {f g : Nat → Bool} (h : ∀ i, f i = true → g i = true) : ∀ k, lastI f k ≤ lastI g k
  | 0 => Nat.le_refl _
  | k + 1 => by
    have h1 := lastI_mono h k
    have h2 := lastI_le' f k
    by_cases hf : f k = true
    · rw [lastI_t hf, lastI_t (h k hf)]; exact Nat.le_refl _
    · have e1 : f k = false := by simpa using hf
      rw [lastI_f e1]
      by_cases hg : g k = true
      · rw [lastI_t hg]; exact h2
      · have e2 : g k = false := by simpa using hg
        rw [lastI_f e2]; exact h1
theorem atF_mono {A B : Nat} {b0 b1 c0 c1 : Bool} (h : A ≤ B) (hB : B ≤ 13) (h0 : b0 = true → c0 = true) (h1 : b1 = true → c1 = true) : atF A b0 b1 ≤ atF B c0 c1 := by
  by_cases hA : A = 13
  · have hB2 : B = 13 := by omega
    subst hA; subst hB2
    cases b0 <;> cases b1 <;> cases c0 <;> cases c1 <;> simp_all [atF]
  · have e : atF A b0 b1 = A := at_no (fun e => hA (by omega)) (by omega)
    rw [e]
    by_cases hB2 : B = 13
    · subst hB2
      cases c0 <;> cases c1 <;> simp [atF] <;> omega
    · rw [at_no (fun e => hB2 (by omega)) hB]; exact h
theorem atV_mono {bl ti : List UInt64} {nu nu' tm tm' : UInt64} (h : nu.toNat ≤ nu'.toNat) (h2 : tm.toNat ≤ tm'.toNat) : atV bl ti nu tm ≤ atV bl ti nu' tm' := by
  rw [atV_eq, atV_eq]
  exact atF_mono (lastI_mono (fun i hi => comeB_le h hi) 14) (lastI_le _ 13) (fun hc => comeB_le h2 hc) (fun hc => comeB_le h2 hc)
theorem more_le {a m : UInt64} (h : (a.toNat : Int) < 9223372036854775808) : a.toNat ≤ (a + m % 1000).toNat := by
  rw [UInt64.toNat_add, UInt64.toNat_mod, show (1000 : UInt64).toNat = 1000 from rfl]
  omega
theorem atI_mono {p : Prop} {a b : Nat} (h : a ≤ b) : atI p a ≤ atI p b := by
  by_cases hp : p
  · rw [atI_t hp, atI_t hp]; omega
  · rw [atI_f hp, atI_f hp]; exact Int.le_refl _
theorem later_at {p : Prop} {bl ti : List UInt64} {a0 a1 m0 m1 : UInt64} (h : (a0.toNat : Int) < 9223372036854775808) (h2 : (a1.toNat : Int) < 9223372036854775808) : atI p (atV bl ti a0 a1) ≤ atI p (atV bl ti (a0 + m0 % 1000) (a1 + m1 % 1000)) := atI_mono (atV_mono (more_le h) (more_le h2))
theorem opM_next {k op : Int} (h : opM k op = true) (hk : k < 15) : opM (k + 1) op = true := by
  unfold opM at *
  have := of_decide_eq_true h
  exact decide_eq_true ⟨by omega, by omega, by omega⟩
theorem opM_16 (op : Int) : opM 16 op = false := by
  unfold opM
  exact decide_eq_false (by omega)
theorem opM_neg (op : Int) : opM (-1) op = false := by
  unfold opM
  exact decide_eq_false (by omega)
/-- What was there at the fork before. -/
def hadM (k : Nat) (op : Int) : Bool := match k with | 0 => false | j + 1 => opM (j : Int) op
theorem hadM_next {k : Nat} {op : Int} (h : hadM k op = true) (hk : k < 16) : opM (k : Int) op = true := by
  cases k with
  | zero => exact absurd h Bool.false_ne_true
  | succ j => rw [show ((j + 1 : Nat) : Int) = (j : Int) + 1 from by omega]; exact opM_next h (by omega)
def rise (c : List Value) (a0 a1 m0 m1 : UInt64) (op : Int) : List Value := c ++ [.int .u64 (a0.toNat : Int), .int .u64 (a1.toNat : Int), .int .u64 (m0.toNat : Int), .int .u64 (m1.toNat : Int), .int .i64 op]
section
variable {c : List Value} {a0 a1 m0 m1 : UInt64} {op : Int}
theorem rise_len (h : c.length = 39) : (rise c a0 a1 m0 m1 op).length = 44 := by rw [rise, List.length_append, h]; rfl
theorem rise_c (h : c.length = 39) : ((rise c a0 a1 m0 m1 op).drop 0).take 39 = c := by rw [rise, List.drop_zero, List.take_append, h, List.take_of_length_le (by omega)]; simp
theorem rise_at (h : c.length = 39) : ((rise c a0 a1 m0 m1 op).drop (0 + 39)).take 2 = [.int .u64 (a0.toNat : Int), .int .u64 (a1.toNat : Int)] := by rw [rise, List.drop_append, h, List.drop_of_length_le (by omega)]; rfl
theorem rise_more (h : c.length = 39) : ((rise c a0 a1 m0 m1 op).drop (0 + 41)).take 2 = [.int .u64 (m0.toNat : Int), .int .u64 (m1.toNat : Int)] := by rw [rise, List.drop_append, h, List.drop_of_length_le (by omega)]; rfl
theorem rise_op (h : c.length = 39) : (rise c a0 a1 m0 m1 op)[0 + 43]? = some (.int .i64 op) := by rw [rise, List.getElem?_append_right (by omega), h]; rfl
end
end Go.Proofs.YtoabimaidpbkiaaDoor
/- quarrylaw13.ForkRises answers true. Condition: the table of white space is laid. -/
namespace Go.Proofs.YtoabimaidpbkiaaDoor
set_option linter.unusedVariables false
set_option linter.unusedSimpArgs false
open Go Go.RowKit
section
variable {N : Heaplet} {ch dao : UInt64} {bl ti : List UInt64} {ao : Option Addr} {n cap : Nat} {tw : List UInt8} {fr : List (List UInt8)}
set_option maxRecDepth 100000 in
set_option maxHeartbeats 4000000 in
theorem ForkRises_f (hN : TabH N) (hb : bl.length = 14) (ht : ti.length = 2) (ho : tw.length = 20) (hA : RSl N 20 ao n cap (fr.flatMap u8s)) (hfn : fr.length = n) (h20 : ∀ a ∈ fr, a.length = 20) (a0 a1 m0 m1 : UInt64) (op : Int) : Fn Tryd.prog 6 #[.agg (rise (cfg ch dao bl ti ao n cap tw) a0 a1 m0 m1 op).toArray] [] [N] (fun v L => v = .bool true ∧ L = []) := by
  have hl : ∀ (a : Option Addr) (k c : Nat), (cfg ch dao bl ti a k c tw).length = 39 := fun a k c => cfg_len hb ht ho
  obtain ⟨q, hq⟩ : ∃ q, q = fr.take 40 := ⟨_, rfl⟩
  have hql : q.length ≤ 40 := by rw [hq, List.length_take]; omega
  have hq20 : ∀ a ∈ q, a.length = 20 := fun a ha => h20 a (List.mem_of_mem_take (hq ▸ ha))
  have hop16 := opM_16 op
  have hopn := opM_neg op
  refine Fn.enter (vs := [.agg (rise (cfg ch dao bl ti ao n cap tw) a0 a1 m0 m1 op).toArray]) Tryd.func6 rfl rfl rfl ?_
  intro E R hR
  have hA := hA.le (hR N (by simp))
  have hT := hN.le (hR N (by simp))
  change At _ _ E [R] _
  refine At.seq fun K1 hk_1 => ?_
  refine At.region ?_
  refine op_box (nxla rfl) rfl rfl rfl (fun N1 b1 B1 => ?_)
  change Blk N1 b1 _ (rise (cfg ch dao bl ti ao n cap tw) a0 a1 m0 m1 op) at B1
  refine op_assign (nxlf rfl) rfl rfl ?_
  refine At.opsNil ?_
  refine At.norm (hk_1 ?_)
  refine At.seq fun K2 hk_2 => ?_
  refine At.planS [N1, R] (.take 0 (.take 1 (.take 2 (.take 3 (.take 4 (.take 5 (.fork 6 false (.fork 7 false (.fork 8 false (.fork 9 false (.take 10 .done) .nofork) .nofork) .nofork) (.fork 7 false (.fork 6 false (.fork 8 false (.fork 9 false (.take 10 .done) .nofork) .nofork) .nofork) .nofork)))))))) (by kernel_rfl) (by kernel_rfl) (.refl _) ?_
  refine op_fieldAddr (nxpf rfl rfl) fl52_1 rfl rfl ?_
  refine op_loadAggB (ds := [.int .u64 (a0.toNat : Int), .int .u64 (a1.toNat : Int)]) (nxpf rfl rfl) ag39 rfl B1 (rise_at (hl _ _ _)) rfl (by first | exact mem0 | exact mem1 | exact mem2) rfl ?_
  refine op_fieldAddr (nxpf rfl rfl) fl52_2 rfl rfl ?_
  refine op_loadAggB (ds := [.int .u64 (m0.toNat : Int), .int .u64 (m1.toNat : Int)]) (nxpf rfl rfl) ag39 rfl B1 (rise_more (hl _ _ _)) rfl (by first | exact mem0 | exact mem1 | exact mem2) rfl ?_
  refine op_fieldAddr (nxpf rfl rfl) fl52_3 rfl rfl ?_
  refine op_loadB (nxpf rfl rfl) sc3 rfl B1 (by first | rfl | exact rise_op (hl _ _ _)) mem0 rfl ?_
  refine At.fork ?_ ?_
  rotate_left
  · refine At.fork ?_ ?_
    rotate_left
    · exact At.pNo
    refine op_alloc (Nx.agree (nxpa rfl rfl)) ze39 rfl (fun N4 b4 B4 => ?_)
    change Blk N4 b4 _ [.int .u64 0, .int .u64 0] at B4
    refine At.andS (.cons _ (.refl _)) ?_
    refine At.fork ?_ ?_
    rotate_left
    · exact At.pNo
    refine op_alloc (Nx.agree (nxpa rfl rfl)) ze39 rfl (fun N3 b3 B3 => ?_)
    change Blk N3 b3 _ [.int .u64 0, .int .u64 0] at B3
    refine At.andS (.cons _ (.cons _ (.refl _))) ?_
    refine At.fork ?_ ?_
    rotate_left
    · exact At.pNo
    refine op_store (nxpa rfl rfl) sz39 rfl rfl rfl rfl rfl B3 (by simp) sel0 (fun N3 B3 => ?_)
    simp only [setL, List.set] at B3
    refine At.andS (.cons _ (.cons _ (.refl _))) ?_
    refine At.fork ?_ ?_
    rotate_left
    · exact At.pNo
    refine op_store (nxpa rfl rfl) sz39 rfl rfl rfl rfl rfl B4 (by simp) sel1 (fun N4 B4 => ?_)
    simp only [setL, List.set] at B4
    refine At.andS (.cons _ (.cons _ (.refl _))) ?_
    refine op_assign (nxpf rfl rfl) rfl rfl ?_
    refine At.pDone ?_
    refine At.norm (hk_2 ?_)
    refine At.seq fun K3 hk_3 => ?_
    refine At.region ?_
    refine op_fieldAddr (nxlf rfl) fl52_0 rfl rfl ?_
    refine op_loadAggB (ds := cfg ch dao bl ti ao n cap tw) (nxlf rfl) ag42 rfl B1 (rise_c (hl _ _ _)) (hl _ _ _) (by first | exact mem0 | exact mem1 | exact mem2 | exact mem3) rfl ?_
    refine op_callA (nxla rfl) (.cons rfl .nil) (FTwin_f hb ht ho hA hfn h20) Tryd.func17 rfl rfl (by simp) rfl ?_
    rintro v22 L22 ⟨M22, a22, k22, c22, rfl, rfl, r22, h22⟩
    change At _ _ _ [M22, N4, N3, N1, R] _
    rw [← hq] at r22 h22; have s22 := r22.rsl
    refine op_alloc (nxla rfl) ze42 rfl (fun N6 b6 B6 => ?_)
    change Blk N6 b6 _ [.int .u64 0, .int .u64 0, .int .u64 0, .int .u64 0, .int .u64 0, .int .u64 0, .int .u64 0, .int .u64 0, .int .u64 0, .int .u64 0, .int .u64 0, .int .u64 0, .int .u64 0, .int .u64 0, .int .u64 0, .int .u64 0, .int .u64 0, .int .u64 0, .slice none 0 0, .int .u8 0, .int .u8 0, .int .u8 0, .int .u8 0, .int .u8 0, .int .u8 0, .int .u8 0, .int .u8 0, .int .u8 0, .int .u8 0, .int .u8 0, .int .u8 0, .int .u8 0, .int .u8 0, .int .u8 0, .int .u8 0, .int .u8 0, .int .u8 0, .int .u8 0, .int .u8 0] at B6
    refine op_store (nxl rfl) sz42 rfl rfl (cells_agg _) (hl _ _ _) cfg_one B6 (by rw [hl]; simp) sel0 (fun N6 B6 => ?_)
    rw [setL_all (hl _ _ _) rfl] at B6
    refine At.opsNil ?_
    refine At.norm (hk_3 ?_)
    refine At.seq fun K4 hk_4 => ?_
    refine At.perm sel5 ?_
    refine At.perm sel2 ?_
    refine At.perm sel4 ?_
    refine At.perm sel3 ?_
    refine At.perm sel5 ?_
    refine At.perm sel5 ?_
    refine At.drawnS [N6, N3, M22, R] [6] [] [0,2,3,4,5,1,6,7,8,9,10,11] (by kernel_rfl) (by kernel_rfl) (.cons _ (.cons _ (.refl _))) ?_
    refine op_loadAggB (ds := cfg ch dao bl ti a22 k22 c22 tw) (nxsf rfl rfl rfl) ag42 rfl B6 (cfg_all hb ht ho) (hl _ _ _) (by first | exact mem0 | exact mem1 | exact mem2 | exact mem3) rfl ?_
    refine op_idxA (nxsf rfl rfl rfl) ae39 rfl rfl (show _ = ((0 : Nat) : Int) from rfl) (by omega) rfl ?_
    refine op_loadB (nxsf rfl rfl rfl) sc22 rfl B3 (by first | exact get64A (by omega) | rfl | exact rise_op (hl _ _ _)) mem1 rfl ?_
    refine op_idxA (nxsf rfl rfl rfl) ae39 rfl rfl (show _ = ((1 : Nat) : Int) from rfl) (by omega) rfl ?_
    refine op_loadB (nxsf rfl rfl rfl) sc22 rfl B3 (by first | exact get64A (by omega) | rfl | exact rise_op (hl _ _ _)) mem1 rfl ?_
    refine op_callA (Nx.agree (nxsm rfl rfl rfl)) (.cons rfl .nil) (FTwin_all hb ht ho s22 h22 hq20 hql) Tryd.func17 rfl rfl (by simp) rfl ?_
    rintro v25 L25 ⟨M25, a25, k25, c25, rfl, rfl, r25, h25⟩
    change At _ _ _ [M25, N4, N1, N6, N3, M22, R] _
    have s25 := r25.rsl
    refine At.perm sel6 ?_
    refine At.perm sel6 ?_
    refine At.perm sel6 ?_
    refine At.perm sel6 ?_
    refine At.perm sel4 ?_
    refine At.perm sel6 ?_
    refine At.perm sel6 ?_
    refine At.moreS (Lst := [N6, N3, M22, R]) (Lst' := [M25, N6, N3, M22, R]) (.cons _ (.refl _)) (.cons _ (.cons _ (.refl _))) ?_
    refine op_callA (Nx.agree (nxss rfl rfl rfl rfl)) (.cons rfl (.cons rfl (.cons rfl .nil))) (FAt_f hb ht ho s25 h25 hq20 a0 a1) Tryd.func18 rfl rfl (by simp) rfl ?_
    rintro v30 L30 ⟨rfl, rfl⟩
    change At _ _ _ [N4, N1, M25, N6, N3, M22, R] _
    refine At.anyS (.refl _) ?_
    refine op_move (nxsf rfl rfl rfl) rfl rfl ?_
    refine op_extract (nxsf rfl rfl rfl) rfl rfl rfl ?_
    refine op_extract (nxsf rfl rfl rfl) rfl rfl rfl ?_
    refine op_assign (nxsf rfl rfl rfl) rfl rfl ?_
    refine op_assign (nxsf rfl rfl rfl) rfl rfl ?_
    refine At.sNil ?_
    refine At.norm (hk_4 ?_)
    refine At.seq fun K5 hk_5 => ?_
    refine At.perm sel6 ?_
    refine At.perm sel6 ?_
    refine At.perm sel2 ?_
    refine At.perm sel6 ?_
    refine At.perm sel6 ?_
    refine At.perm sel6 ?_
    refine At.perm sel6 ?_
    refine At.drawnS [N6, N3, N4, M22, R] [14] [] [0,2,3,4,5,6,7,8,9,10,11,12,13,1,14,15,16,17,18,19] (by kernel_rfl) (by kernel_rfl) (.cons _ (.cons _ (.refl _))) ?_
    refine op_loadAggB (ds := cfg ch dao bl ti a22 k22 c22 tw) (nxsf rfl rfl rfl) ag42 rfl B6 (cfg_all hb ht ho) (hl _ _ _) (by first | exact mem0 | exact mem1 | exact mem2 | exact mem3) rfl ?_
    refine op_idxA (nxsf rfl rfl rfl) ae39 rfl rfl (show _ = ((0 : Nat) : Int) from rfl) (by omega) rfl ?_
    refine op_loadB (nxsf rfl rfl rfl) sc22 rfl B3 (by first | exact get64A (by omega) | rfl | exact rise_op (hl _ _ _)) mem1 rfl ?_
    refine op_idxA (nxsf rfl rfl rfl) ae39 rfl rfl (show _ = ((0 : Nat) : Int) from rfl) (by omega) rfl ?_
    refine op_loadB (nxsf rfl rfl rfl) sc22 rfl B4 (by first | exact get64A (by omega) | rfl | exact rise_op (hl _ _ _)) mem2 rfl ?_
    refine op_remU (b := 1000) (nxsf rfl rfl rfl) rfl rfl (by first | omega | decide) rfl ?_
    refine op_addU (nxsf rfl rfl rfl) rfl rfl rfl ?_
    refine op_idxA (nxsf rfl rfl rfl) ae39 rfl rfl (show _ = ((1 : Nat) : Int) from rfl) (by omega) rfl ?_
    refine op_loadB (nxsf rfl rfl rfl) sc22 rfl B3 (by first | exact get64A (by omega) | rfl | exact rise_op (hl _ _ _)) mem1 rfl ?_
    refine op_idxA (nxsf rfl rfl rfl) ae39 rfl rfl (show _ = ((1 : Nat) : Int) from rfl) (by omega) rfl ?_
    refine op_loadB (nxsf rfl rfl rfl) sc22 rfl B4 (by first | exact get64A (by omega) | rfl | exact rise_op (hl _ _ _)) mem2 rfl ?_
    refine op_remU (b := 1000) (nxsf rfl rfl rfl) rfl rfl (by first | omega | decide) rfl ?_
    refine op_addU (nxsf rfl rfl rfl) rfl rfl rfl ?_
    refine op_callA (Nx.agree (nxsm rfl rfl rfl)) (.cons rfl .nil) (FTwin_all hb ht ho s22 h22 hq20 hql) Tryd.func17 rfl rfl (by simp) rfl ?_
    rintro v35 L35 ⟨M35, a35, k35, c35, rfl, rfl, r35, h35⟩
    change At _ _ _ [M35, N1, M25, N6, N3, N4, M22, R] _
    have s35 := r35.rsl
    refine At.perm sel7 ?_
    refine At.perm sel7 ?_
    refine At.perm sel7 ?_
    refine At.perm sel7 ?_
    refine At.perm sel7 ?_
    refine At.perm sel5 ?_
    refine At.perm sel7 ?_
    refine At.perm sel7 ?_
    refine At.moreS (Lst := [N6, N3, N4, M22, R]) (Lst' := [M35, N6, N3, N4, M22, R]) (.cons _ (.refl _)) (.cons _ (.cons _ (.refl _))) ?_
    refine op_callA (Nx.agree (nxss rfl rfl rfl rfl)) (.cons rfl (.cons rfl (.cons rfl .nil))) (FAt_f hb ht ho s35 h35 hq20 (a0 + m0 % 1000) (a1 + m1 % 1000)) Tryd.func18 rfl rfl (by simp) rfl ?_
    rintro v48 L48 ⟨rfl, rfl⟩
    change At _ _ _ [N1, M25, M35, N6, N3, N4, M22, R] _
    refine At.anyS (.refl _) ?_
    refine op_move (nxsf rfl rfl rfl) rfl rfl ?_
    refine op_extract (nxsf rfl rfl rfl) rfl rfl rfl ?_
    refine op_extract (nxsf rfl rfl rfl) rfl rfl rfl ?_
    refine op_assign (nxsf rfl rfl rfl) rfl rfl ?_
    refine op_assign (nxsf rfl rfl rfl) rfl rfl ?_
    refine At.sNil ?_
    refine At.norm (hk_5 ?_)
    refine At.seq fun K6 hk_6 => ?_
    refine At.seq fun K7 hk_7 => ?_
    refine At.region ?_
    refine op_move (nxlf rfl) rfl rfl ?_
    refine op_move (nxlf rfl) rfl rfl ?_
    refine op_neq (nxlf rfl) rfl rfl rfl ?_
    refine At.opsNil ?_
    refine At.norm (hk_7 ?_)
    refine At.condP rfl (fun c53 => ?_) (fun c53 => ?_)
    · exact absurd rfl c53
    · refine At.skip ?_
      refine At.norm (hk_6 ?_)
      refine At.seq fun K8 hk_8 => ?_
      refine At.seq fun K9 hk_9 => ?_
      refine At.region ?_
      refine op_move (nxlf rfl) rfl rfl ?_
      refine op_eql (nxlf rfl) rfl rfl rfl ?_
      refine op_move (nxlf rfl) rfl rfl ?_
      refine At.partP (d := 56) rfl (fun g56 => ?_) (fun g56 => ?_)
      · refine op_idxA (nxgf rfl rfl rfl rfl) ae39 rfl rfl (show _ = ((0 : Nat) : Int) from rfl) (by omega) rfl ?_
        refine op_loadB (nxgf rfl rfl rfl rfl) sc22 rfl B3 (by first | exact get64A (by omega) | rfl | exact rise_op (hl _ _ _)) mem4 rfl ?_
        refine op_lss (nxgf rfl rfl rfl rfl) rfl rfl rfl ?_
        refine op_pickT (nxlf rfl) rfl rfl rfl ?_
        refine op_move (nxlf rfl) rfl rfl ?_
        refine At.partP (d := 61) rfl (fun g61 => ?_) (fun g61 => ?_)
        · refine op_idxA (nxgf rfl rfl rfl rfl) ae39 rfl rfl (show _ = ((1 : Nat) : Int) from rfl) (by omega) rfl ?_
          refine op_loadB (nxgf rfl rfl rfl rfl) sc22 rfl B3 (by first | exact get64A (by omega) | rfl | exact rise_op (hl _ _ _)) mem4 rfl ?_
          refine op_lss (nxgf rfl rfl rfl rfl) rfl rfl rfl ?_
          refine op_pickT (nxlf rfl) rfl rfl rfl ?_
          refine op_move (nxlf rfl) rfl rfl ?_
          refine At.partP (d := 66) rfl (fun g66 => ?_) (fun g66 => ?_)
          · refine op_move (nxgf rfl rfl rfl rfl) rfl rfl ?_
            refine op_move (nxgf rfl rfl rfl rfl) rfl rfl ?_
            refine op_lss (nxgf rfl rfl rfl rfl) rfl rfl rfl ?_
            refine op_pickT (nxlf rfl) rfl rfl rfl ?_
            refine At.opsNil ?_
            refine At.norm (hk_9 ?_)
            refine At.condP rfl (fun c70 => ?_) (fun c70 => ?_)
            · exact absurd c70 (Int.not_lt.2 (later_at g61 g66))
            · refine At.skip ?_
              refine At.norm (hk_8 ?_)
              refine At.seq fun K10 hk_10 => ?_
              refine At.region ?_
              refine op_assign (nxlf rfl) rfl rfl ?_
              refine At.opsNil ?_
              refine At.norm (hk_10 ?_)
              refine At.seq fun K11 hk_11 => ?_
              refine At.seq fun K12 hk_12 => ?_
              refine At.region ?_
              refine op_assign (nxlf rfl) rfl rfl ?_
              refine At.opsNil ?_
              refine At.norm (hk_12 ?_)
              refine At.block ?_
              refine At.sub (L' := [R]) (.cons _ (.cons _ (.cons _ (.cons _ (.cons _ (.cons _ (.cons _ (.cons_cons _ (.slnil))))))))) ?_
              refine At.loop (fun fr_ hp_ ms_ => ∃ (k : Nat), fr_ = [(5, .int .i64 op), (11, .bool (hadM k op)), (12, .int .i64 (k : Int))] ∧ hp_ = [R] ∧ 16 - k = ms_ ∧ (k ≤ 16)) ?_ (.refl _) ⟨0, rfl, rfl, rfl, by omega⟩ ?_
              · exact .cons (by first | exact lkI rfl (by omega) | rfl) (.cons (by first | exact lkI rfl (by omega) | rfl) (.cons (by first | exact lkI rfl (by omega) | rfl) .nil))
              rintro _ _ _ ⟨k, rfl, rfl, rfl, hk⟩
              refine At.seq fun K13 hk_13 => ?_
              refine At.seq fun K14 hk_14 => ?_
              refine At.region ?_
              refine op_move (nxlf rfl) rfl rfl ?_
              refine op_lss (nxlf rfl) rfl rfl rfl ?_
              refine At.opsNil ?_
              refine At.norm (hk_14 ?_)
              refine At.condP rfl (fun c72 => ?_) (fun c72 => ?_)
              · refine At.skip ?_
                refine At.norm (hk_13 ?_)
                refine At.seq fun K15 hk_15 => ?_
                refine At.block ?_
                refine At.seq fun K16 hk_16 => ?_
                refine At.region ?_
                refine op_move (nxlf rfl) rfl rfl ?_
                refine op_move (nxlf rfl) rfl rfl ?_
                refine op_callA (nxla rfl) (.cons rfl (.cons rfl .nil)) (FOp_f (k : Int) op) Tryd.func13 rfl rfl (by simp) rfl ?_
                rintro v77 L77 ⟨rfl, rfl⟩
                change At _ _ _ [R] _
                refine op_assign (nxlf rfl) rfl rfl ?_
                refine At.opsNil ?_
                refine At.norm (hk_16 ?_)
                refine At.seq fun K17 hk_17 => ?_
                refine At.seq fun K18 hk_18 => ?_
                refine At.region ?_
                refine op_move (nxlf rfl) rfl rfl ?_
                refine op_move (nxlf rfl) rfl rfl ?_
                refine At.part (d := 79) rfl (fun g79 => ?_) (fun g79 => ?_)
                · refine op_move (nxgf rfl rfl rfl rfl) rfl rfl ?_
                  refine op_not (nxgf rfl rfl rfl rfl) rfl rfl ?_
                  refine op_pickT (nxlf rfl) rfl rfl rfl ?_
                  refine At.opsNil ?_
                  refine At.norm (hk_18 ?_)
                  refine At.condB rfl (fun c82 => ?_) (fun c82 => ?_)
                  · rw [hadM_next g79 (by omega)] at c82; exact absurd c82 (by decide)
                  · refine At.skip ?_
                    refine At.norm (hk_17 ?_)
                    refine At.region ?_
                    refine op_move (nxlf rfl) rfl rfl ?_
                    refine op_assign (nxlf rfl) rfl rfl ?_
                    refine At.opsNil ?_
                    refine At.inNorm ?_
                    refine At.norm (hk_15 ?_)
                    refine At.region ?_
                    refine op_move (nxlf rfl) rfl rfl ?_
                    refine op_addI (nxlf rfl) rfl rfl (by omega) (by omega) rfl ?_
                    refine op_assign (nxlf rfl) rfl rfl ?_
                    refine At.opsNil ?_
                    refine At.norm ?_
                    refine At.back ?_ (.refl _) ⟨k + 1, rfl, rfl, rfl, by omega⟩ ?_
                    · exact .cons (by first | exact lkI rfl (by omega) | rfl) (.cons (by first | exact lkI rfl (by omega) | rfl) (.cons (by first | exact lkI rfl (by omega) | rfl) .nil))
                    · omega
                · refine op_skip rfl rfl rfl rfl rfl rfl rfl ?_
                  refine op_skip rfl rfl rfl rfl rfl rfl rfl ?_
                  refine op_pickF (nxlf rfl) rfl rfl rfl ?_
                  refine At.opsNil ?_
                  refine At.norm (hk_18 ?_)
                  refine At.condF rfl ?_
                  refine At.skip ?_
                  refine At.norm (hk_17 ?_)
                  refine At.region ?_
                  refine op_move (nxlf rfl) rfl rfl ?_
                  refine op_assign (nxlf rfl) rfl rfl ?_
                  refine At.opsNil ?_
                  refine At.inNorm ?_
                  refine At.norm (hk_15 ?_)
                  refine At.region ?_
                  refine op_move (nxlf rfl) rfl rfl ?_
                  refine op_addI (nxlf rfl) rfl rfl (by omega) (by omega) rfl ?_
                  refine op_assign (nxlf rfl) rfl rfl ?_
                  refine At.opsNil ?_
                  refine At.norm ?_
                  refine At.back ?_ (.refl _) ⟨k + 1, rfl, rfl, rfl, by omega⟩ ?_
                  · exact .cons (by first | exact lkI rfl (by omega) | rfl) (.cons (by first | exact lkI rfl (by omega) | rfl) (.cons (by first | exact lkI rfl (by omega) | rfl) .nil))
                  · omega
              · refine At.exit (At.thenExit (At.thenExit (At.inHit ?_)))
                refine At.norm (hk_11 ?_)
                refine At.seq fun K19 hk_19 => ?_
                refine At.region ?_
                refine op_move (nxlf rfl) rfl rfl ?_
                refine op_callA (nxla rfl) (.cons rfl (.cons rfl .nil)) (FOp_f 16 op) Tryd.func13 rfl rfl (by simp) rfl ?_
                rintro v85 L85 ⟨rfl, rfl⟩
                change At _ _ _ [R] _
                rw [hop16]
                refine op_not (nxlf rfl) rfl rfl ?_
                refine op_move (nxlf rfl) rfl rfl ?_
                refine op_move (nxgf rfl rfl rfl rfl) rfl rfl ?_
                refine op_callA (nxga rfl rfl rfl rfl) (.cons rfl (.cons rfl .nil)) (FOp_f (-1) op) Tryd.func13 rfl rfl (by simp) rfl ?_
                rintro v89 L89 ⟨rfl, rfl⟩
                change At _ _ _ [R] _
                rw [hopn]
                refine op_not (nxgf rfl rfl rfl rfl) rfl rfl ?_
                refine op_pickT (nxlf rfl) rfl rfl rfl ?_
                refine op_move (nxlf rfl) rfl rfl ?_
                refine op_callA (nxga rfl rfl rfl rfl) .nil (Fwakes_f hT) Tryd.func12 rfl rfl (by simp) rfl ?_
                rintro v93 L93 ⟨rfl, rfl⟩
                change At _ _ _ [R] _
                refine op_pickT (nxlf rfl) rfl rfl rfl ?_
                refine op_assign (nxlf rfl) rfl rfl ?_
                refine At.opsNil ?_
                refine At.norm (hk_19 ?_)
                refine At.ret (?_)
                refine At.ret1 (L1 := []) rfl (.tmp rfl .nil) (.refl _) (.refl _) ?_
                exact ⟨rfl, rfl⟩
          · refine op_skip rfl rfl rfl rfl rfl rfl rfl ?_
            refine op_skip rfl rfl rfl rfl rfl rfl rfl ?_
            refine op_skip rfl rfl rfl rfl rfl rfl rfl ?_
            refine op_pickF (nxlf rfl) rfl rfl rfl ?_
            refine At.opsNil ?_
            refine At.norm (hk_9 ?_)
            refine At.condF rfl ?_
            refine At.skip ?_
            refine At.norm (hk_8 ?_)
            refine At.seq fun K20 hk_20 => ?_
            refine At.region ?_
            refine op_assign (nxlf rfl) rfl rfl ?_
            refine At.opsNil ?_
            refine At.norm (hk_20 ?_)
            refine At.seq fun K21 hk_21 => ?_
            refine At.seq fun K22 hk_22 => ?_
            refine At.region ?_
            refine op_assign (nxlf rfl) rfl rfl ?_
            refine At.opsNil ?_
            refine At.norm (hk_22 ?_)
            refine At.block ?_
            refine At.sub (L' := [R]) (.cons _ (.cons _ (.cons _ (.cons _ (.cons _ (.cons _ (.cons _ (.cons_cons _ (.slnil))))))))) ?_
            refine At.loop (fun fr_ hp_ ms_ => ∃ (k : Nat), fr_ = [(5, .int .i64 op), (11, .bool (hadM k op)), (12, .int .i64 (k : Int))] ∧ hp_ = [R] ∧ 16 - k = ms_ ∧ (k ≤ 16)) ?_ (.refl _) ⟨0, rfl, rfl, rfl, by omega⟩ ?_
            · exact .cons (by first | exact lkI rfl (by omega) | rfl) (.cons (by first | exact lkI rfl (by omega) | rfl) (.cons (by first | exact lkI rfl (by omega) | rfl) .nil))
            rintro _ _ _ ⟨k, rfl, rfl, rfl, hk⟩
            refine At.seq fun K23 hk_23 => ?_
            refine At.seq fun K24 hk_24 => ?_
            refine At.region ?_
            refine op_move (nxlf rfl) rfl rfl ?_
            refine op_lss (nxlf rfl) rfl rfl rfl ?_
            refine At.opsNil ?_
            refine At.norm (hk_24 ?_)
            refine At.condP rfl (fun c72 => ?_) (fun c72 => ?_)
            · refine At.skip ?_
              refine At.norm (hk_23 ?_)
              refine At.seq fun K25 hk_25 => ?_
              refine At.block ?_
              refine At.seq fun K26 hk_26 => ?_
              refine At.region ?_
              refine op_move (nxlf rfl) rfl rfl ?_
              refine op_move (nxlf rfl) rfl rfl ?_
              refine op_callA (nxla rfl) (.cons rfl (.cons rfl .nil)) (FOp_f (k : Int) op) Tryd.func13 rfl rfl (by simp) rfl ?_
              rintro v77 L77 ⟨rfl, rfl⟩
              change At _ _ _ [R] _
              refine op_assign (nxlf rfl) rfl rfl ?_
              refine At.opsNil ?_
              refine At.norm (hk_26 ?_)
              refine At.seq fun K27 hk_27 => ?_
              refine At.seq fun K28 hk_28 => ?_
              refine At.region ?_
              refine op_move (nxlf rfl) rfl rfl ?_
              refine op_move (nxlf rfl) rfl rfl ?_
              refine At.part (d := 79) rfl (fun g79 => ?_) (fun g79 => ?_)
              · refine op_move (nxgf rfl rfl rfl rfl) rfl rfl ?_
                refine op_not (nxgf rfl rfl rfl rfl) rfl rfl ?_
                refine op_pickT (nxlf rfl) rfl rfl rfl ?_
                refine At.opsNil ?_
                refine At.norm (hk_28 ?_)
                refine At.condB rfl (fun c82 => ?_) (fun c82 => ?_)
                · rw [hadM_next g79 (by omega)] at c82; exact absurd c82 (by decide)
                · refine At.skip ?_
                  refine At.norm (hk_27 ?_)
                  refine At.region ?_
                  refine op_move (nxlf rfl) rfl rfl ?_
                  refine op_assign (nxlf rfl) rfl rfl ?_
                  refine At.opsNil ?_
                  refine At.inNorm ?_
                  refine At.norm (hk_25 ?_)
                  refine At.region ?_
                  refine op_move (nxlf rfl) rfl rfl ?_
                  refine op_addI (nxlf rfl) rfl rfl (by omega) (by omega) rfl ?_
                  refine op_assign (nxlf rfl) rfl rfl ?_
                  refine At.opsNil ?_
                  refine At.norm ?_
                  refine At.back ?_ (.refl _) ⟨k + 1, rfl, rfl, rfl, by omega⟩ ?_
                  · exact .cons (by first | exact lkI rfl (by omega) | rfl) (.cons (by first | exact lkI rfl (by omega) | rfl) (.cons (by first | exact lkI rfl (by omega) | rfl) .nil))
                  · omega
              · refine op_skip rfl rfl rfl rfl rfl rfl rfl ?_
                refine op_skip rfl rfl rfl rfl rfl rfl rfl ?_
                refine op_pickF (nxlf rfl) rfl rfl rfl ?_
                refine At.opsNil ?_
                refine At.norm (hk_28 ?_)
                refine At.condF rfl ?_
                refine At.skip ?_
                refine At.norm (hk_27 ?_)
                refine At.region ?_
                refine op_move (nxlf rfl) rfl rfl ?_
                refine op_assign (nxlf rfl) rfl rfl ?_
                refine At.opsNil ?_
                refine At.inNorm ?_
                refine At.norm (hk_25 ?_)
                refine At.region ?_
                refine op_move (nxlf rfl) rfl rfl ?_
                refine op_addI (nxlf rfl) rfl rfl (by omega) (by omega) rfl ?_
                refine op_assign (nxlf rfl) rfl rfl ?_
                refine At.opsNil ?_
                refine At.norm ?_
                refine At.back ?_ (.refl _) ⟨k + 1, rfl, rfl, rfl, by omega⟩ ?_
                · exact .cons (by first | exact lkI rfl (by omega) | rfl) (.cons (by first | exact lkI rfl (by omega) | rfl) (.cons (by first | exact lkI rfl (by omega) | rfl) .nil))
                · omega
            · refine At.exit (At.thenExit (At.thenExit (At.inHit ?_)))
              refine At.norm (hk_21 ?_)
              refine At.seq fun K29 hk_29 => ?_
              refine At.region ?_
              refine op_move (nxlf rfl) rfl rfl ?_
              refine op_callA (nxla rfl) (.cons rfl (.cons rfl .nil)) (FOp_f 16 op) Tryd.func13 rfl rfl (by simp) rfl ?_
              rintro v85 L85 ⟨rfl, rfl⟩
              change At _ _ _ [R] _
              rw [hop16]
              refine op_not (nxlf rfl) rfl rfl ?_
              refine op_move (nxlf rfl) rfl rfl ?_
              refine op_move (nxgf rfl rfl rfl rfl) rfl rfl ?_
              refine op_callA (nxga rfl rfl rfl rfl) (.cons rfl (.cons rfl .nil)) (FOp_f (-1) op) Tryd.func13 rfl rfl (by simp) rfl ?_
              rintro v89 L89 ⟨rfl, rfl⟩
              change At _ _ _ [R] _
              rw [hopn]
              refine op_not (nxgf rfl rfl rfl rfl) rfl rfl ?_
              refine op_pickT (nxlf rfl) rfl rfl rfl ?_
              refine op_move (nxlf rfl) rfl rfl ?_
              refine op_callA (nxga rfl rfl rfl rfl) .nil (Fwakes_f hT) Tryd.func12 rfl rfl (by simp) rfl ?_
              rintro v93 L93 ⟨rfl, rfl⟩
              change At _ _ _ [R] _
              refine op_pickT (nxlf rfl) rfl rfl rfl ?_
              refine op_assign (nxlf rfl) rfl rfl ?_
              refine At.opsNil ?_
              refine At.norm (hk_29 ?_)
              refine At.ret (?_)
              refine At.ret1 (L1 := []) rfl (.tmp rfl .nil) (.refl _) (.refl _) ?_
              exact ⟨rfl, rfl⟩
        · refine op_skip rfl rfl rfl rfl rfl rfl rfl ?_
          refine op_skip rfl rfl rfl rfl rfl rfl rfl ?_
          refine op_skip rfl rfl rfl rfl rfl rfl rfl ?_
          refine op_pickF (nxlf rfl) rfl rfl rfl ?_
          refine op_move (nxlf rfl) rfl rfl ?_
          refine op_skip rfl rfl rfl rfl rfl rfl rfl ?_
          refine op_skip rfl rfl rfl rfl rfl rfl rfl ?_
          refine op_skip rfl rfl rfl rfl rfl rfl rfl ?_
          refine op_pickF (nxlf rfl) rfl rfl rfl ?_
          refine At.opsNil ?_
          refine At.norm (hk_9 ?_)
          refine At.condF rfl ?_
          refine At.skip ?_
          refine At.norm (hk_8 ?_)
          refine At.seq fun K30 hk_30 => ?_
          refine At.region ?_
          refine op_assign (nxlf rfl) rfl rfl ?_
          refine At.opsNil ?_
          refine At.norm (hk_30 ?_)
          refine At.seq fun K31 hk_31 => ?_
          refine At.seq fun K32 hk_32 => ?_
          refine At.region ?_
          refine op_assign (nxlf rfl) rfl rfl ?_
          refine At.opsNil ?_
          refine At.norm (hk_32 ?_)
          refine At.block ?_
          refine At.sub (L' := [R]) (.cons _ (.cons _ (.cons _ (.cons _ (.cons _ (.cons _ (.cons _ (.cons_cons _ (.slnil))))))))) ?_
          refine At.loop (fun fr_ hp_ ms_ => ∃ (k : Nat), fr_ = [(5, .int .i64 op), (11, .bool (hadM k op)), (12, .int .i64 (k : Int))] ∧ hp_ = [R] ∧ 16 - k = ms_ ∧ (k ≤ 16)) ?_ (.refl _) ⟨0, rfl, rfl, rfl, by omega⟩ ?_
          · exact .cons (by first | exact lkI rfl (by omega) | rfl) (.cons (by first | exact lkI rfl (by omega) | rfl) (.cons (by first | exact lkI rfl (by omega) | rfl) .nil))
          rintro _ _ _ ⟨k, rfl, rfl, rfl, hk⟩
          refine At.seq fun K33 hk_33 => ?_
          refine At.seq fun K34 hk_34 => ?_
          refine At.region ?_
          refine op_move (nxlf rfl) rfl rfl ?_
          refine op_lss (nxlf rfl) rfl rfl rfl ?_
          refine At.opsNil ?_
          refine At.norm (hk_34 ?_)
          refine At.condP rfl (fun c72 => ?_) (fun c72 => ?_)
          · refine At.skip ?_
            refine At.norm (hk_33 ?_)
            refine At.seq fun K35 hk_35 => ?_
            refine At.block ?_
            refine At.seq fun K36 hk_36 => ?_
            refine At.region ?_
            refine op_move (nxlf rfl) rfl rfl ?_
            refine op_move (nxlf rfl) rfl rfl ?_
            refine op_callA (nxla rfl) (.cons rfl (.cons rfl .nil)) (FOp_f (k : Int) op) Tryd.func13 rfl rfl (by simp) rfl ?_
            rintro v77 L77 ⟨rfl, rfl⟩
            change At _ _ _ [R] _
            refine op_assign (nxlf rfl) rfl rfl ?_
            refine At.opsNil ?_
            refine At.norm (hk_36 ?_)
            refine At.seq fun K37 hk_37 => ?_
            refine At.seq fun K38 hk_38 => ?_
            refine At.region ?_
            refine op_move (nxlf rfl) rfl rfl ?_
            refine op_move (nxlf rfl) rfl rfl ?_
            refine At.part (d := 79) rfl (fun g79 => ?_) (fun g79 => ?_)
            · refine op_move (nxgf rfl rfl rfl rfl) rfl rfl ?_
              refine op_not (nxgf rfl rfl rfl rfl) rfl rfl ?_
              refine op_pickT (nxlf rfl) rfl rfl rfl ?_
              refine At.opsNil ?_
              refine At.norm (hk_38 ?_)
              refine At.condB rfl (fun c82 => ?_) (fun c82 => ?_)
              · rw [hadM_next g79 (by omega)] at c82; exact absurd c82 (by decide)
              · refine At.skip ?_
                refine At.norm (hk_37 ?_)
                refine At.region ?_
                refine op_move (nxlf rfl) rfl rfl ?_
                refine op_assign (nxlf rfl) rfl rfl ?_
                refine At.opsNil ?_
                refine At.inNorm ?_
                refine At.norm (hk_35 ?_)
                refine At.region ?_
                refine op_move (nxlf rfl) rfl rfl ?_
                refine op_addI (nxlf rfl) rfl rfl (by omega) (by omega) rfl ?_
                refine op_assign (nxlf rfl) rfl rfl ?_
                refine At.opsNil ?_
                refine At.norm ?_
                refine At.back ?_ (.refl _) ⟨k + 1, rfl, rfl, rfl, by omega⟩ ?_
                · exact .cons (by first | exact lkI rfl (by omega) | rfl) (.cons (by first | exact lkI rfl (by omega) | rfl) (.cons (by first | exact lkI rfl (by omega) | rfl) .nil))
                · omega
            · refine op_skip rfl rfl rfl rfl rfl rfl rfl ?_
              refine op_skip rfl rfl rfl rfl rfl rfl rfl ?_
              refine op_pickF (nxlf rfl) rfl rfl rfl ?_
              refine At.opsNil ?_
              refine At.norm (hk_38 ?_)
              refine At.condF rfl ?_
              refine At.skip ?_
              refine At.norm (hk_37 ?_)
              refine At.region ?_
              refine op_move (nxlf rfl) rfl rfl ?_
              refine op_assign (nxlf rfl) rfl rfl ?_
              refine At.opsNil ?_
              refine At.inNorm ?_
              refine At.norm (hk_35 ?_)
              refine At.region ?_
              refine op_move (nxlf rfl) rfl rfl ?_
              refine op_addI (nxlf rfl) rfl rfl (by omega) (by omega) rfl ?_
              refine op_assign (nxlf rfl) rfl rfl ?_
              refine At.opsNil ?_
              refine At.norm ?_
              refine At.back ?_ (.refl _) ⟨k + 1, rfl, rfl, rfl, by omega⟩ ?_
              · exact .cons (by first | exact lkI rfl (by omega) | rfl) (.cons (by first | exact lkI rfl (by omega) | rfl) (.cons (by first | exact lkI rfl (by omega) | rfl) .nil))
              · omega
          · refine At.exit (At.thenExit (At.thenExit (At.inHit ?_)))
            refine At.norm (hk_31 ?_)
            refine At.seq fun K39 hk_39 => ?_
            refine At.region ?_
            refine op_move (nxlf rfl) rfl rfl ?_
            refine op_callA (nxla rfl) (.cons rfl (.cons rfl .nil)) (FOp_f 16 op) Tryd.func13 rfl rfl (by simp) rfl ?_
            rintro v85 L85 ⟨rfl, rfl⟩
            change At _ _ _ [R] _
            rw [hop16]
            refine op_not (nxlf rfl) rfl rfl ?_
            refine op_move (nxlf rfl) rfl rfl ?_
            refine op_move (nxgf rfl rfl rfl rfl) rfl rfl ?_
            refine op_callA (nxga rfl rfl rfl rfl) (.cons rfl (.cons rfl .nil)) (FOp_f (-1) op) Tryd.func13 rfl rfl (by simp) rfl ?_
            rintro v89 L89 ⟨rfl, rfl⟩
            change At _ _ _ [R] _
            rw [hopn]
            refine op_not (nxgf rfl rfl rfl rfl) rfl rfl ?_
            refine op_pickT (nxlf rfl) rfl rfl rfl ?_
            refine op_move (nxlf rfl) rfl rfl ?_
            refine op_callA (nxga rfl rfl rfl rfl) .nil (Fwakes_f hT) Tryd.func12 rfl rfl (by simp) rfl ?_
            rintro v93 L93 ⟨rfl, rfl⟩
            change At _ _ _ [R] _
            refine op_pickT (nxlf rfl) rfl rfl rfl ?_
            refine op_assign (nxlf rfl) rfl rfl ?_
            refine At.opsNil ?_
            refine At.norm (hk_39 ?_)
            refine At.ret (?_)
            refine At.ret1 (L1 := []) rfl (.tmp rfl .nil) (.refl _) (.refl _) ?_
            exact ⟨rfl, rfl⟩
      · refine op_skip rfl rfl rfl rfl rfl rfl rfl ?_
        refine op_skip rfl rfl rfl rfl rfl rfl rfl ?_
        refine op_skip rfl rfl rfl rfl rfl rfl rfl ?_
        refine op_pickF (nxlf rfl) rfl rfl rfl ?_
        refine op_move (nxlf rfl) rfl rfl ?_
        refine op_skip rfl rfl rfl rfl rfl rfl rfl ?_
        refine op_skip rfl rfl rfl rfl rfl rfl rfl ?_
        refine op_skip rfl rfl rfl rfl rfl rfl rfl ?_
        refine op_pickF (nxlf rfl) rfl rfl rfl ?_
        refine op_move (nxlf rfl) rfl rfl ?_
        refine op_skip rfl rfl rfl rfl rfl rfl rfl ?_
        refine op_skip rfl rfl rfl rfl rfl rfl rfl ?_
        refine op_skip rfl rfl rfl rfl rfl rfl rfl ?_
        refine op_pickF (nxlf rfl) rfl rfl rfl ?_
        refine At.opsNil ?_
        refine At.norm (hk_9 ?_)
        refine At.condF rfl ?_
        refine At.skip ?_
        refine At.norm (hk_8 ?_)
        refine At.seq fun K40 hk_40 => ?_
        refine At.region ?_
        refine op_assign (nxlf rfl) rfl rfl ?_
        refine At.opsNil ?_
        refine At.norm (hk_40 ?_)
        refine At.seq fun K41 hk_41 => ?_
        refine At.seq fun K42 hk_42 => ?_
        refine At.region ?_
        refine op_assign (nxlf rfl) rfl rfl ?_
        refine At.opsNil ?_
        refine At.norm (hk_42 ?_)
        refine At.block ?_
        refine At.sub (L' := [R]) (.cons _ (.cons _ (.cons _ (.cons _ (.cons _ (.cons _ (.cons _ (.cons_cons _ (.slnil))))))))) ?_
        refine At.loop (fun fr_ hp_ ms_ => ∃ (k : Nat), fr_ = [(5, .int .i64 op), (11, .bool (hadM k op)), (12, .int .i64 (k : Int))] ∧ hp_ = [R] ∧ 16 - k = ms_ ∧ (k ≤ 16)) ?_ (.refl _) ⟨0, rfl, rfl, rfl, by omega⟩ ?_
        · exact .cons (by first | exact lkI rfl (by omega) | rfl) (.cons (by first | exact lkI rfl (by omega) | rfl) (.cons (by first | exact lkI rfl (by omega) | rfl) .nil))
        rintro _ _ _ ⟨k, rfl, rfl, rfl, hk⟩
        refine At.seq fun K43 hk_43 => ?_
        refine At.seq fun K44 hk_44 => ?_
        refine At.region ?_
        refine op_move (nxlf rfl) rfl rfl ?_
        refine op_lss (nxlf rfl) rfl rfl rfl ?_
        refine At.opsNil ?_
        refine At.norm (hk_44 ?_)
        refine At.condP rfl (fun c72 => ?_) (fun c72 => ?_)
        · refine At.skip ?_
          refine At.norm (hk_43 ?_)
          refine At.seq fun K45 hk_45 => ?_
          refine At.block ?_
          refine At.seq fun K46 hk_46 => ?_
          refine At.region ?_
          refine op_move (nxlf rfl) rfl rfl ?_
          refine op_move (nxlf rfl) rfl rfl ?_
          refine op_callA (nxla rfl) (.cons rfl (.cons rfl .nil)) (FOp_f (k : Int) op) Tryd.func13 rfl rfl (by simp) rfl ?_
          rintro v77 L77 ⟨rfl, rfl⟩
          change At _ _ _ [R] _
          refine op_assign (nxlf rfl) rfl rfl ?_
          refine At.opsNil ?_
          refine At.norm (hk_46 ?_)
          refine At.seq fun K47 hk_47 => ?_
          refine At.seq fun K48 hk_48 => ?_
          refine At.region ?_
          refine op_move (nxlf rfl) rfl rfl ?_
          refine op_move (nxlf rfl) rfl rfl ?_
          refine At.part (d := 79) rfl (fun g79 => ?_) (fun g79 => ?_)
          · refine op_move (nxgf rfl rfl rfl rfl) rfl rfl ?_
            refine op_not (nxgf rfl rfl rfl rfl) rfl rfl ?_
            refine op_pickT (nxlf rfl) rfl rfl rfl ?_
            refine At.opsNil ?_
            refine At.norm (hk_48 ?_)
            refine At.condB rfl (fun c82 => ?_) (fun c82 => ?_)
            · rw [hadM_next g79 (by omega)] at c82; exact absurd c82 (by decide)
            · refine At.skip ?_
              refine At.norm (hk_47 ?_)
              refine At.region ?_
              refine op_move (nxlf rfl) rfl rfl ?_
              refine op_assign (nxlf rfl) rfl rfl ?_
              refine At.opsNil ?_
              refine At.inNorm ?_
              refine At.norm (hk_45 ?_)
              refine At.region ?_
              refine op_move (nxlf rfl) rfl rfl ?_
              refine op_addI (nxlf rfl) rfl rfl (by omega) (by omega) rfl ?_
              refine op_assign (nxlf rfl) rfl rfl ?_
              refine At.opsNil ?_
              refine At.norm ?_
              refine At.back ?_ (.refl _) ⟨k + 1, rfl, rfl, rfl, by omega⟩ ?_
              · exact .cons (by first | exact lkI rfl (by omega) | rfl) (.cons (by first | exact lkI rfl (by omega) | rfl) (.cons (by first | exact lkI rfl (by omega) | rfl) .nil))
              · omega
          · refine op_skip rfl rfl rfl rfl rfl rfl rfl ?_
            refine op_skip rfl rfl rfl rfl rfl rfl rfl ?_
            refine op_pickF (nxlf rfl) rfl rfl rfl ?_
            refine At.opsNil ?_
            refine At.norm (hk_48 ?_)
            refine At.condF rfl ?_
            refine At.skip ?_
            refine At.norm (hk_47 ?_)
            refine At.region ?_
            refine op_move (nxlf rfl) rfl rfl ?_
            refine op_assign (nxlf rfl) rfl rfl ?_
            refine At.opsNil ?_
            refine At.inNorm ?_
            refine At.norm (hk_45 ?_)
            refine At.region ?_
            refine op_move (nxlf rfl) rfl rfl ?_
            refine op_addI (nxlf rfl) rfl rfl (by omega) (by omega) rfl ?_
            refine op_assign (nxlf rfl) rfl rfl ?_
            refine At.opsNil ?_
            refine At.norm ?_
            refine At.back ?_ (.refl _) ⟨k + 1, rfl, rfl, rfl, by omega⟩ ?_
            · exact .cons (by first | exact lkI rfl (by omega) | rfl) (.cons (by first | exact lkI rfl (by omega) | rfl) (.cons (by first | exact lkI rfl (by omega) | rfl) .nil))
            · omega
        · refine At.exit (At.thenExit (At.thenExit (At.inHit ?_)))
          refine At.norm (hk_41 ?_)
          refine At.seq fun K49 hk_49 => ?_
          refine At.region ?_
          refine op_move (nxlf rfl) rfl rfl ?_
          refine op_callA (nxla rfl) (.cons rfl (.cons rfl .nil)) (FOp_f 16 op) Tryd.func13 rfl rfl (by simp) rfl ?_
          rintro v85 L85 ⟨rfl, rfl⟩
          change At _ _ _ [R] _
          rw [hop16]
          refine op_not (nxlf rfl) rfl rfl ?_
          refine op_move (nxlf rfl) rfl rfl ?_
          refine op_move (nxgf rfl rfl rfl rfl) rfl rfl ?_
          refine op_callA (nxga rfl rfl rfl rfl) (.cons rfl (.cons rfl .nil)) (FOp_f (-1) op) Tryd.func13 rfl rfl (by simp) rfl ?_
          rintro v89 L89 ⟨rfl, rfl⟩
          change At _ _ _ [R] _
          rw [hopn]
          refine op_not (nxgf rfl rfl rfl rfl) rfl rfl ?_
          refine op_pickT (nxlf rfl) rfl rfl rfl ?_
          refine op_move (nxlf rfl) rfl rfl ?_
          refine op_callA (nxga rfl rfl rfl rfl) .nil (Fwakes_f hT) Tryd.func12 rfl rfl (by simp) rfl ?_
          rintro v93 L93 ⟨rfl, rfl⟩
          change At _ _ _ [R] _
          refine op_pickT (nxlf rfl) rfl rfl rfl ?_
          refine op_assign (nxlf rfl) rfl rfl ?_
          refine At.opsNil ?_
          refine At.norm (hk_49 ?_)
          refine At.ret (?_)
          refine At.ret1 (L1 := []) rfl (.tmp rfl .nil) (.refl _) (.refl _) ?_
          exact ⟨rfl, rfl⟩
  refine op_alloc (Nx.agree (nxpa rfl rfl)) ze39 rfl (fun N3 b3 B3 => ?_)
  change Blk N3 b3 _ [.int .u64 0, .int .u64 0] at B3
  refine At.andS (.cons _ (.refl _)) ?_
  refine At.fork ?_ ?_
  rotate_left
  · exact At.pNo
  refine op_alloc (Nx.agree (nxpa rfl rfl)) ze39 rfl (fun N4 b4 B4 => ?_)
  change Blk N4 b4 _ [.int .u64 0, .int .u64 0] at B4
  refine At.andS (.cons _ (.cons _ (.refl _))) ?_
  refine At.fork ?_ ?_
  rotate_left
  · exact At.pNo
  refine op_store (nxpa rfl rfl) sz39 rfl rfl rfl rfl rfl B3 (by simp) sel1 (fun N3 B3 => ?_)
  simp only [setL, List.set] at B3
  refine At.andS (.cons _ (.cons _ (.refl _))) ?_
  refine At.fork ?_ ?_
  rotate_left
  · exact At.pNo
  refine op_store (nxpa rfl rfl) sz39 rfl rfl rfl rfl rfl B4 (by simp) sel1 (fun N4 B4 => ?_)
  simp only [setL, List.set] at B4
  refine At.andS (.cons _ (.cons _ (.refl _))) ?_
  refine op_assign (nxpf rfl rfl) rfl rfl ?_
  refine At.pDone ?_
  refine At.norm (hk_2 ?_)
  refine At.seq fun K50 hk_50 => ?_
  refine At.region ?_
  refine op_fieldAddr (nxlf rfl) fl52_0 rfl rfl ?_
  refine op_loadAggB (ds := cfg ch dao bl ti ao n cap tw) (nxlf rfl) ag42 rfl B1 (rise_c (hl _ _ _)) (hl _ _ _) (by first | exact mem0 | exact mem1 | exact mem2 | exact mem3) rfl ?_
  refine op_callA (nxla rfl) (.cons rfl .nil) (FTwin_f hb ht ho hA hfn h20) Tryd.func17 rfl rfl (by simp) rfl ?_
  rintro v22 L22 ⟨M22, a22, k22, c22, rfl, rfl, r22, h22⟩
  change At _ _ _ [M22, N4, N3, N1, R] _
  rw [← hq] at r22 h22; have s22 := r22.rsl
  refine op_alloc (nxla rfl) ze42 rfl (fun N6 b6 B6 => ?_)
  change Blk N6 b6 _ [.int .u64 0, .int .u64 0, .int .u64 0, .int .u64 0, .int .u64 0, .int .u64 0, .int .u64 0, .int .u64 0, .int .u64 0, .int .u64 0, .int .u64 0, .int .u64 0, .int .u64 0, .int .u64 0, .int .u64 0, .int .u64 0, .int .u64 0, .int .u64 0, .slice none 0 0, .int .u8 0, .int .u8 0, .int .u8 0, .int .u8 0, .int .u8 0, .int .u8 0, .int .u8 0, .int .u8 0, .int .u8 0, .int .u8 0, .int .u8 0, .int .u8 0, .int .u8 0, .int .u8 0, .int .u8 0, .int .u8 0, .int .u8 0, .int .u8 0, .int .u8 0, .int .u8 0] at B6
  refine op_store (nxl rfl) sz42 rfl rfl (cells_agg _) (hl _ _ _) cfg_one B6 (by rw [hl]; simp) sel0 (fun N6 B6 => ?_)
  rw [setL_all (hl _ _ _) rfl] at B6
  refine At.opsNil ?_
  refine At.norm (hk_50 ?_)
  refine At.seq fun K51 hk_51 => ?_
  refine At.perm sel5 ?_
  refine At.perm sel2 ?_
  refine At.perm sel4 ?_
  refine At.perm sel3 ?_
  refine At.perm sel5 ?_
  refine At.perm sel5 ?_
  refine At.drawnS [N6, N3, M22, R] [6] [] [0,2,3,4,5,1,6,7,8,9,10,11] (by kernel_rfl) (by kernel_rfl) (.cons _ (.cons _ (.refl _))) ?_
  refine op_loadAggB (ds := cfg ch dao bl ti a22 k22 c22 tw) (nxsf rfl rfl rfl) ag42 rfl B6 (cfg_all hb ht ho) (hl _ _ _) (by first | exact mem0 | exact mem1 | exact mem2 | exact mem3) rfl ?_
  refine op_idxA (nxsf rfl rfl rfl) ae39 rfl rfl (show _ = ((0 : Nat) : Int) from rfl) (by omega) rfl ?_
  refine op_loadB (nxsf rfl rfl rfl) sc22 rfl B3 (by first | exact get64A (by omega) | rfl | exact rise_op (hl _ _ _)) mem1 rfl ?_
  refine op_idxA (nxsf rfl rfl rfl) ae39 rfl rfl (show _ = ((1 : Nat) : Int) from rfl) (by omega) rfl ?_
  refine op_loadB (nxsf rfl rfl rfl) sc22 rfl B3 (by first | exact get64A (by omega) | rfl | exact rise_op (hl _ _ _)) mem1 rfl ?_
  refine op_callA (Nx.agree (nxsm rfl rfl rfl)) (.cons rfl .nil) (FTwin_all hb ht ho s22 h22 hq20 hql) Tryd.func17 rfl rfl (by simp) rfl ?_
  rintro v25 L25 ⟨M25, a25, k25, c25, rfl, rfl, r25, h25⟩
  change At _ _ _ [M25, N4, N1, N6, N3, M22, R] _
  have s25 := r25.rsl
  refine At.perm sel6 ?_
  refine At.perm sel6 ?_
  refine At.perm sel6 ?_
  refine At.perm sel6 ?_
  refine At.perm sel4 ?_
  refine At.perm sel6 ?_
  refine At.perm sel6 ?_
  refine At.moreS (Lst := [N6, N3, M22, R]) (Lst' := [M25, N6, N3, M22, R]) (.cons _ (.refl _)) (.cons _ (.cons _ (.refl _))) ?_
  refine op_callA (Nx.agree (nxss rfl rfl rfl rfl)) (.cons rfl (.cons rfl (.cons rfl .nil))) (FAt_f hb ht ho s25 h25 hq20 a0 a1) Tryd.func18 rfl rfl (by simp) rfl ?_
  rintro v30 L30 ⟨rfl, rfl⟩
  change At _ _ _ [N4, N1, M25, N6, N3, M22, R] _
  refine At.anyS (.refl _) ?_
  refine op_move (nxsf rfl rfl rfl) rfl rfl ?_
  refine op_extract (nxsf rfl rfl rfl) rfl rfl rfl ?_
  refine op_extract (nxsf rfl rfl rfl) rfl rfl rfl ?_
  refine op_assign (nxsf rfl rfl rfl) rfl rfl ?_
  refine op_assign (nxsf rfl rfl rfl) rfl rfl ?_
  refine At.sNil ?_
  refine At.norm (hk_51 ?_)
  refine At.seq fun K52 hk_52 => ?_
  refine At.perm sel6 ?_
  refine At.perm sel6 ?_
  refine At.perm sel2 ?_
  refine At.perm sel6 ?_
  refine At.perm sel6 ?_
  refine At.perm sel6 ?_
  refine At.perm sel6 ?_
  refine At.drawnS [N6, N3, N4, M22, R] [14] [] [0,2,3,4,5,6,7,8,9,10,11,12,13,1,14,15,16,17,18,19] (by kernel_rfl) (by kernel_rfl) (.cons _ (.cons _ (.refl _))) ?_
  refine op_loadAggB (ds := cfg ch dao bl ti a22 k22 c22 tw) (nxsf rfl rfl rfl) ag42 rfl B6 (cfg_all hb ht ho) (hl _ _ _) (by first | exact mem0 | exact mem1 | exact mem2 | exact mem3) rfl ?_
  refine op_idxA (nxsf rfl rfl rfl) ae39 rfl rfl (show _ = ((0 : Nat) : Int) from rfl) (by omega) rfl ?_
  refine op_loadB (nxsf rfl rfl rfl) sc22 rfl B3 (by first | exact get64A (by omega) | rfl | exact rise_op (hl _ _ _)) mem1 rfl ?_
  refine op_idxA (nxsf rfl rfl rfl) ae39 rfl rfl (show _ = ((0 : Nat) : Int) from rfl) (by omega) rfl ?_
  refine op_loadB (nxsf rfl rfl rfl) sc22 rfl B4 (by first | exact get64A (by omega) | rfl | exact rise_op (hl _ _ _)) mem2 rfl ?_
  refine op_remU (b := 1000) (nxsf rfl rfl rfl) rfl rfl (by first | omega | decide) rfl ?_
  refine op_addU (nxsf rfl rfl rfl) rfl rfl rfl ?_
  refine op_idxA (nxsf rfl rfl rfl) ae39 rfl rfl (show _ = ((1 : Nat) : Int) from rfl) (by omega) rfl ?_
  refine op_loadB (nxsf rfl rfl rfl) sc22 rfl B3 (by first | exact get64A (by omega) | rfl | exact rise_op (hl _ _ _)) mem1 rfl ?_
  refine op_idxA (nxsf rfl rfl rfl) ae39 rfl rfl (show _ = ((1 : Nat) : Int) from rfl) (by omega) rfl ?_
  refine op_loadB (nxsf rfl rfl rfl) sc22 rfl B4 (by first | exact get64A (by omega) | rfl | exact rise_op (hl _ _ _)) mem2 rfl ?_
  refine op_remU (b := 1000) (nxsf rfl rfl rfl) rfl rfl (by first | omega | decide) rfl ?_
  refine op_addU (nxsf rfl rfl rfl) rfl rfl rfl ?_
  refine op_callA (Nx.agree (nxsm rfl rfl rfl)) (.cons rfl .nil) (FTwin_all hb ht ho s22 h22 hq20 hql) Tryd.func17 rfl rfl (by simp) rfl ?_
  rintro v35 L35 ⟨M35, a35, k35, c35, rfl, rfl, r35, h35⟩
  change At _ _ _ [M35, N1, M25, N6, N3, N4, M22, R] _
  have s35 := r35.rsl
  refine At.perm sel7 ?_
  refine At.perm sel7 ?_
  refine At.perm sel7 ?_
  refine At.perm sel7 ?_
  refine At.perm sel7 ?_
  refine At.perm sel5 ?_
  refine At.perm sel7 ?_
  refine At.perm sel7 ?_
  refine At.moreS (Lst := [N6, N3, N4, M22, R]) (Lst' := [M35, N6, N3, N4, M22, R]) (.cons _ (.refl _)) (.cons _ (.cons _ (.refl _))) ?_
  refine op_callA (Nx.agree (nxss rfl rfl rfl rfl)) (.cons rfl (.cons rfl (.cons rfl .nil))) (FAt_f hb ht ho s35 h35 hq20 (a0 + m0 % 1000) (a1 + m1 % 1000)) Tryd.func18 rfl rfl (by simp) rfl ?_
  rintro v48 L48 ⟨rfl, rfl⟩
  change At _ _ _ [N1, M25, M35, N6, N3, N4, M22, R] _
  refine At.anyS (.refl _) ?_
  refine op_move (nxsf rfl rfl rfl) rfl rfl ?_
  refine op_extract (nxsf rfl rfl rfl) rfl rfl rfl ?_
  refine op_extract (nxsf rfl rfl rfl) rfl rfl rfl ?_
  refine op_assign (nxsf rfl rfl rfl) rfl rfl ?_
  refine op_assign (nxsf rfl rfl rfl) rfl rfl ?_
  refine At.sNil ?_
  refine At.norm (hk_52 ?_)
  refine At.seq fun K53 hk_53 => ?_
  refine At.seq fun K54 hk_54 => ?_
  refine At.region ?_
  refine op_move (nxlf rfl) rfl rfl ?_
  refine op_move (nxlf rfl) rfl rfl ?_
  refine op_neq (nxlf rfl) rfl rfl rfl ?_
  refine At.opsNil ?_
  refine At.norm (hk_54 ?_)
  refine At.condP rfl (fun c53 => ?_) (fun c53 => ?_)
  · exact absurd rfl c53
  · refine At.skip ?_
    refine At.norm (hk_53 ?_)
    refine At.seq fun K55 hk_55 => ?_
    refine At.seq fun K56 hk_56 => ?_
    refine At.region ?_
    refine op_move (nxlf rfl) rfl rfl ?_
    refine op_eql (nxlf rfl) rfl rfl rfl ?_
    refine op_move (nxlf rfl) rfl rfl ?_
    refine At.partP (d := 56) rfl (fun g56 => ?_) (fun g56 => ?_)
    · refine op_idxA (nxgf rfl rfl rfl rfl) ae39 rfl rfl (show _ = ((0 : Nat) : Int) from rfl) (by omega) rfl ?_
      refine op_loadB (nxgf rfl rfl rfl rfl) sc22 rfl B3 (by first | exact get64A (by omega) | rfl | exact rise_op (hl _ _ _)) mem4 rfl ?_
      refine op_lss (nxgf rfl rfl rfl rfl) rfl rfl rfl ?_
      refine op_pickT (nxlf rfl) rfl rfl rfl ?_
      refine op_move (nxlf rfl) rfl rfl ?_
      refine At.partP (d := 61) rfl (fun g61 => ?_) (fun g61 => ?_)
      · refine op_idxA (nxgf rfl rfl rfl rfl) ae39 rfl rfl (show _ = ((1 : Nat) : Int) from rfl) (by omega) rfl ?_
        refine op_loadB (nxgf rfl rfl rfl rfl) sc22 rfl B3 (by first | exact get64A (by omega) | rfl | exact rise_op (hl _ _ _)) mem4 rfl ?_
        refine op_lss (nxgf rfl rfl rfl rfl) rfl rfl rfl ?_
        refine op_pickT (nxlf rfl) rfl rfl rfl ?_
        refine op_move (nxlf rfl) rfl rfl ?_
        refine At.partP (d := 66) rfl (fun g66 => ?_) (fun g66 => ?_)
        · refine op_move (nxgf rfl rfl rfl rfl) rfl rfl ?_
          refine op_move (nxgf rfl rfl rfl rfl) rfl rfl ?_
          refine op_lss (nxgf rfl rfl rfl rfl) rfl rfl rfl ?_
          refine op_pickT (nxlf rfl) rfl rfl rfl ?_
          refine At.opsNil ?_
          refine At.norm (hk_56 ?_)
          refine At.condP rfl (fun c70 => ?_) (fun c70 => ?_)
          · exact absurd c70 (Int.not_lt.2 (later_at g61 g66))
          · refine At.skip ?_
            refine At.norm (hk_55 ?_)
            refine At.seq fun K57 hk_57 => ?_
            refine At.region ?_
            refine op_assign (nxlf rfl) rfl rfl ?_
            refine At.opsNil ?_
            refine At.norm (hk_57 ?_)
            refine At.seq fun K58 hk_58 => ?_
            refine At.seq fun K59 hk_59 => ?_
            refine At.region ?_
            refine op_assign (nxlf rfl) rfl rfl ?_
            refine At.opsNil ?_
            refine At.norm (hk_59 ?_)
            refine At.block ?_
            refine At.sub (L' := [R]) (.cons _ (.cons _ (.cons _ (.cons _ (.cons _ (.cons _ (.cons _ (.cons_cons _ (.slnil))))))))) ?_
            refine At.loop (fun fr_ hp_ ms_ => ∃ (k : Nat), fr_ = [(5, .int .i64 op), (11, .bool (hadM k op)), (12, .int .i64 (k : Int))] ∧ hp_ = [R] ∧ 16 - k = ms_ ∧ (k ≤ 16)) ?_ (.refl _) ⟨0, rfl, rfl, rfl, by omega⟩ ?_
            · exact .cons (by first | exact lkI rfl (by omega) | rfl) (.cons (by first | exact lkI rfl (by omega) | rfl) (.cons (by first | exact lkI rfl (by omega) | rfl) .nil))
            rintro _ _ _ ⟨k, rfl, rfl, rfl, hk⟩
            refine At.seq fun K60 hk_60 => ?_
            refine At.seq fun K61 hk_61 => ?_
            refine At.region ?_
            refine op_move (nxlf rfl) rfl rfl ?_
            refine op_lss (nxlf rfl) rfl rfl rfl ?_
            refine At.opsNil ?_
            refine At.norm (hk_61 ?_)
            refine At.condP rfl (fun c72 => ?_) (fun c72 => ?_)
            · refine At.skip ?_
              refine At.norm (hk_60 ?_)
              refine At.seq fun K62 hk_62 => ?_
              refine At.block ?_
              refine At.seq fun K63 hk_63 => ?_
              refine At.region ?_
              refine op_move (nxlf rfl) rfl rfl ?_
              refine op_move (nxlf rfl) rfl rfl ?_
              refine op_callA (nxla rfl) (.cons rfl (.cons rfl .nil)) (FOp_f (k : Int) op) Tryd.func13 rfl rfl (by simp) rfl ?_
              rintro v77 L77 ⟨rfl, rfl⟩
              change At _ _ _ [R] _
              refine op_assign (nxlf rfl) rfl rfl ?_
              refine At.opsNil ?_
              refine At.norm (hk_63 ?_)
              refine At.seq fun K64 hk_64 => ?_
              refine At.seq fun K65 hk_65 => ?_
              refine At.region ?_
              refine op_move (nxlf rfl) rfl rfl ?_
              refine op_move (nxlf rfl) rfl rfl ?_
              refine At.part (d := 79) rfl (fun g79 => ?_) (fun g79 => ?_)
              · refine op_move (nxgf rfl rfl rfl rfl) rfl rfl ?_
                refine op_not (nxgf rfl rfl rfl rfl) rfl rfl ?_
                refine op_pickT (nxlf rfl) rfl rfl rfl ?_
                refine At.opsNil ?_
                refine At.norm (hk_65 ?_)
                refine At.condB rfl (fun c82 => ?_) (fun c82 => ?_)
                · rw [hadM_next g79 (by omega)] at c82; exact absurd c82 (by decide)
                · refine At.skip ?_
                  refine At.norm (hk_64 ?_)
                  refine At.region ?_
                  refine op_move (nxlf rfl) rfl rfl ?_
                  refine op_assign (nxlf rfl) rfl rfl ?_
                  refine At.opsNil ?_
                  refine At.inNorm ?_
                  refine At.norm (hk_62 ?_)
                  refine At.region ?_
                  refine op_move (nxlf rfl) rfl rfl ?_
                  refine op_addI (nxlf rfl) rfl rfl (by omega) (by omega) rfl ?_
                  refine op_assign (nxlf rfl) rfl rfl ?_
                  refine At.opsNil ?_
                  refine At.norm ?_
                  refine At.back ?_ (.refl _) ⟨k + 1, rfl, rfl, rfl, by omega⟩ ?_
                  · exact .cons (by first | exact lkI rfl (by omega) | rfl) (.cons (by first | exact lkI rfl (by omega) | rfl) (.cons (by first | exact lkI rfl (by omega) | rfl) .nil))
                  · omega
              · refine op_skip rfl rfl rfl rfl rfl rfl rfl ?_
                refine op_skip rfl rfl rfl rfl rfl rfl rfl ?_
                refine op_pickF (nxlf rfl) rfl rfl rfl ?_
                refine At.opsNil ?_
                refine At.norm (hk_65 ?_)
                refine At.condF rfl ?_
                refine At.skip ?_
                refine At.norm (hk_64 ?_)
                refine At.region ?_
                refine op_move (nxlf rfl) rfl rfl ?_
                refine op_assign (nxlf rfl) rfl rfl ?_
                refine At.opsNil ?_
                refine At.inNorm ?_
                refine At.norm (hk_62 ?_)
                refine At.region ?_
                refine op_move (nxlf rfl) rfl rfl ?_
                refine op_addI (nxlf rfl) rfl rfl (by omega) (by omega) rfl ?_
                refine op_assign (nxlf rfl) rfl rfl ?_
                refine At.opsNil ?_
                refine At.norm ?_
                refine At.back ?_ (.refl _) ⟨k + 1, rfl, rfl, rfl, by omega⟩ ?_
                · exact .cons (by first | exact lkI rfl (by omega) | rfl) (.cons (by first | exact lkI rfl (by omega) | rfl) (.cons (by first | exact lkI rfl (by omega) | rfl) .nil))
                · omega
            · refine At.exit (At.thenExit (At.thenExit (At.inHit ?_)))
              refine At.norm (hk_58 ?_)
              refine At.seq fun K66 hk_66 => ?_
              refine At.region ?_
              refine op_move (nxlf rfl) rfl rfl ?_
              refine op_callA (nxla rfl) (.cons rfl (.cons rfl .nil)) (FOp_f 16 op) Tryd.func13 rfl rfl (by simp) rfl ?_
              rintro v85 L85 ⟨rfl, rfl⟩
              change At _ _ _ [R] _
              rw [hop16]
              refine op_not (nxlf rfl) rfl rfl ?_
              refine op_move (nxlf rfl) rfl rfl ?_
              refine op_move (nxgf rfl rfl rfl rfl) rfl rfl ?_
              refine op_callA (nxga rfl rfl rfl rfl) (.cons rfl (.cons rfl .nil)) (FOp_f (-1) op) Tryd.func13 rfl rfl (by simp) rfl ?_
              rintro v89 L89 ⟨rfl, rfl⟩
              change At _ _ _ [R] _
              rw [hopn]
              refine op_not (nxgf rfl rfl rfl rfl) rfl rfl ?_
              refine op_pickT (nxlf rfl) rfl rfl rfl ?_
              refine op_move (nxlf rfl) rfl rfl ?_
              refine op_callA (nxga rfl rfl rfl rfl) .nil (Fwakes_f hT) Tryd.func12 rfl rfl (by simp) rfl ?_
              rintro v93 L93 ⟨rfl, rfl⟩
              change At _ _ _ [R] _
              refine op_pickT (nxlf rfl) rfl rfl rfl ?_
              refine op_assign (nxlf rfl) rfl rfl ?_
              refine At.opsNil ?_
              refine At.norm (hk_66 ?_)
              refine At.ret (?_)
              refine At.ret1 (L1 := []) rfl (.tmp rfl .nil) (.refl _) (.refl _) ?_
              exact ⟨rfl, rfl⟩
        · refine op_skip rfl rfl rfl rfl rfl rfl rfl ?_
          refine op_skip rfl rfl rfl rfl rfl rfl rfl ?_
          refine op_skip rfl rfl rfl rfl rfl rfl rfl ?_
          refine op_pickF (nxlf rfl) rfl rfl rfl ?_
          refine At.opsNil ?_
          refine At.norm (hk_56 ?_)
          refine At.condF rfl ?_
          refine At.skip ?_
          refine At.norm (hk_55 ?_)
          refine At.seq fun K67 hk_67 => ?_
          refine At.region ?_
          refine op_assign (nxlf rfl) rfl rfl ?_
          refine At.opsNil ?_
          refine At.norm (hk_67 ?_)
          refine At.seq fun K68 hk_68 => ?_
          refine At.seq fun K69 hk_69 => ?_
          refine At.region ?_
          refine op_assign (nxlf rfl) rfl rfl ?_
          refine At.opsNil ?_
          refine At.norm (hk_69 ?_)
          refine At.block ?_
          refine At.sub (L' := [R]) (.cons _ (.cons _ (.cons _ (.cons _ (.cons _ (.cons _ (.cons _ (.cons_cons _ (.slnil))))))))) ?_
          refine At.loop (fun fr_ hp_ ms_ => ∃ (k : Nat), fr_ = [(5, .int .i64 op), (11, .bool (hadM k op)), (12, .int .i64 (k : Int))] ∧ hp_ = [R] ∧ 16 - k = ms_ ∧ (k ≤ 16)) ?_ (.refl _) ⟨0, rfl, rfl, rfl, by omega⟩ ?_
          · exact .cons (by first | exact lkI rfl (by omega) | rfl) (.cons (by first | exact lkI rfl (by omega) | rfl) (.cons (by first | exact lkI rfl (by omega) | rfl) .nil))
          rintro _ _ _ ⟨k, rfl, rfl, rfl, hk⟩
          refine At.seq fun K70 hk_70 => ?_
          refine At.seq fun K71 hk_71 => ?_
          refine At.region ?_
          refine op_move (nxlf rfl) rfl rfl ?_
          refine op_lss (nxlf rfl) rfl rfl rfl ?_
          refine At.opsNil ?_
          refine At.norm (hk_71 ?_)
          refine At.condP rfl (fun c72 => ?_) (fun c72 => ?_)
          · refine At.skip ?_
            refine At.norm (hk_70 ?_)
            refine At.seq fun K72 hk_72 => ?_
            refine At.block ?_
            refine At.seq fun K73 hk_73 => ?_
            refine At.region ?_
            refine op_move (nxlf rfl) rfl rfl ?_
            refine op_move (nxlf rfl) rfl rfl ?_
            refine op_callA (nxla rfl) (.cons rfl (.cons rfl .nil)) (FOp_f (k : Int) op) Tryd.func13 rfl rfl (by simp) rfl ?_
            rintro v77 L77 ⟨rfl, rfl⟩
            change At _ _ _ [R] _
            refine op_assign (nxlf rfl) rfl rfl ?_
            refine At.opsNil ?_
            refine At.norm (hk_73 ?_)
            refine At.seq fun K74 hk_74 => ?_
            refine At.seq fun K75 hk_75 => ?_
            refine At.region ?_
            refine op_move (nxlf rfl) rfl rfl ?_
            refine op_move (nxlf rfl) rfl rfl ?_
            refine At.part (d := 79) rfl (fun g79 => ?_) (fun g79 => ?_)
            · refine op_move (nxgf rfl rfl rfl rfl) rfl rfl ?_
              refine op_not (nxgf rfl rfl rfl rfl) rfl rfl ?_
              refine op_pickT (nxlf rfl) rfl rfl rfl ?_
              refine At.opsNil ?_
              refine At.norm (hk_75 ?_)
              refine At.condB rfl (fun c82 => ?_) (fun c82 => ?_)
              · rw [hadM_next g79 (by omega)] at c82; exact absurd c82 (by decide)
              · refine At.skip ?_
                refine At.norm (hk_74 ?_)
                refine At.region ?_
                refine op_move (nxlf rfl) rfl rfl ?_
                refine op_assign (nxlf rfl) rfl rfl ?_
                refine At.opsNil ?_
                refine At.inNorm ?_
                refine At.norm (hk_72 ?_)
                refine At.region ?_
                refine op_move (nxlf rfl) rfl rfl ?_
                refine op_addI (nxlf rfl) rfl rfl (by omega) (by omega) rfl ?_
                refine op_assign (nxlf rfl) rfl rfl ?_
                refine At.opsNil ?_
                refine At.norm ?_
                refine At.back ?_ (.refl _) ⟨k + 1, rfl, rfl, rfl, by omega⟩ ?_
                · exact .cons (by first | exact lkI rfl (by omega) | rfl) (.cons (by first | exact lkI rfl (by omega) | rfl) (.cons (by first | exact lkI rfl (by omega) | rfl) .nil))
                · omega
            · refine op_skip rfl rfl rfl rfl rfl rfl rfl ?_
              refine op_skip rfl rfl rfl rfl rfl rfl rfl ?_
              refine op_pickF (nxlf rfl) rfl rfl rfl ?_
              refine At.opsNil ?_
              refine At.norm (hk_75 ?_)
              refine At.condF rfl ?_
              refine At.skip ?_
              refine At.norm (hk_74 ?_)
              refine At.region ?_
              refine op_move (nxlf rfl) rfl rfl ?_
              refine op_assign (nxlf rfl) rfl rfl ?_
              refine At.opsNil ?_
              refine At.inNorm ?_
              refine At.norm (hk_72 ?_)
              refine At.region ?_
              refine op_move (nxlf rfl) rfl rfl ?_
              refine op_addI (nxlf rfl) rfl rfl (by omega) (by omega) rfl ?_
              refine op_assign (nxlf rfl) rfl rfl ?_
              refine At.opsNil ?_
              refine At.norm ?_
              refine At.back ?_ (.refl _) ⟨k + 1, rfl, rfl, rfl, by omega⟩ ?_
              · exact .cons (by first | exact lkI rfl (by omega) | rfl) (.cons (by first | exact lkI rfl (by omega) | rfl) (.cons (by first | exact lkI rfl (by omega) | rfl) .nil))
              · omega
          · refine At.exit (At.thenExit (At.thenExit (At.inHit ?_)))
            refine At.norm (hk_68 ?_)
            refine At.seq fun K76 hk_76 => ?_
            refine At.region ?_
            refine op_move (nxlf rfl) rfl rfl ?_
            refine op_callA (nxla rfl) (.cons rfl (.cons rfl .nil)) (FOp_f 16 op) Tryd.func13 rfl rfl (by simp) rfl ?_
            rintro v85 L85 ⟨rfl, rfl⟩
            change At _ _ _ [R] _
            rw [hop16]
            refine op_not (nxlf rfl) rfl rfl ?_
            refine op_move (nxlf rfl) rfl rfl ?_
            refine op_move (nxgf rfl rfl rfl rfl) rfl rfl ?_
            refine op_callA (nxga rfl rfl rfl rfl) (.cons rfl (.cons rfl .nil)) (FOp_f (-1) op) Tryd.func13 rfl rfl (by simp) rfl ?_
            rintro v89 L89 ⟨rfl, rfl⟩
            change At _ _ _ [R] _
            rw [hopn]
            refine op_not (nxgf rfl rfl rfl rfl) rfl rfl ?_
            refine op_pickT (nxlf rfl) rfl rfl rfl ?_
            refine op_move (nxlf rfl) rfl rfl ?_
            refine op_callA (nxga rfl rfl rfl rfl) .nil (Fwakes_f hT) Tryd.func12 rfl rfl (by simp) rfl ?_
            rintro v93 L93 ⟨rfl, rfl⟩
            change At _ _ _ [R] _
            refine op_pickT (nxlf rfl) rfl rfl rfl ?_
            refine op_assign (nxlf rfl) rfl rfl ?_
            refine At.opsNil ?_
            refine At.norm (hk_76 ?_)
            refine At.ret (?_)
            refine At.ret1 (L1 := []) rfl (.tmp rfl .nil) (.refl _) (.refl _) ?_
            exact ⟨rfl, rfl⟩
      · refine op_skip rfl rfl rfl rfl rfl rfl rfl ?_
        refine op_skip rfl rfl rfl rfl rfl rfl rfl ?_
        refine op_skip rfl rfl rfl rfl rfl rfl rfl ?_
        refine op_pickF (nxlf rfl) rfl rfl rfl ?_
        refine op_move (nxlf rfl) rfl rfl ?_
        refine op_skip rfl rfl rfl rfl rfl rfl rfl ?_
        refine op_skip rfl rfl rfl rfl rfl rfl rfl ?_
        refine op_skip rfl rfl rfl rfl rfl rfl rfl ?_
        refine op_pickF (nxlf rfl) rfl rfl rfl ?_
        refine At.opsNil ?_
        refine At.norm (hk_56 ?_)
        refine At.condF rfl ?_
        refine At.skip ?_
        refine At.norm (hk_55 ?_)
        refine At.seq fun K77 hk_77 => ?_
        refine At.region ?_
        refine op_assign (nxlf rfl) rfl rfl ?_
        refine At.opsNil ?_
        refine At.norm (hk_77 ?_)
        refine At.seq fun K78 hk_78 => ?_
        refine At.seq fun K79 hk_79 => ?_
        refine At.region ?_
        refine op_assign (nxlf rfl) rfl rfl ?_
        refine At.opsNil ?_
        refine At.norm (hk_79 ?_)
        refine At.block ?_
        refine At.sub (L' := [R]) (.cons _ (.cons _ (.cons _ (.cons _ (.cons _ (.cons _ (.cons _ (.cons_cons _ (.slnil))))))))) ?_
        refine At.loop (fun fr_ hp_ ms_ => ∃ (k : Nat), fr_ = [(5, .int .i64 op), (11, .bool (hadM k op)), (12, .int .i64 (k : Int))] ∧ hp_ = [R] ∧ 16 - k = ms_ ∧ (k ≤ 16)) ?_ (.refl _) ⟨0, rfl, rfl, rfl, by omega⟩ ?_
        · exact .cons (by first | exact lkI rfl (by omega) | rfl) (.cons (by first | exact lkI rfl (by omega) | rfl) (.cons (by first | exact lkI rfl (by omega) | rfl) .nil))
        rintro _ _ _ ⟨k, rfl, rfl, rfl, hk⟩
        refine At.seq fun K80 hk_80 => ?_
        refine At.seq fun K81 hk_81 => ?_
        refine At.region ?_
        refine op_move (nxlf rfl) rfl rfl ?_
        refine op_lss (nxlf rfl) rfl rfl rfl ?_
        refine At.opsNil ?_
        refine At.norm (hk_81 ?_)
        refine At.condP rfl (fun c72 => ?_) (fun c72 => ?_)
        · refine At.skip ?_
          refine At.norm (hk_80 ?_)
          refine At.seq fun K82 hk_82 => ?_
          refine At.block ?_
          refine At.seq fun K83 hk_83 => ?_
          refine At.region ?_
          refine op_move (nxlf rfl) rfl rfl ?_
          refine op_move (nxlf rfl) rfl rfl ?_
          refine op_callA (nxla rfl) (.cons rfl (.cons rfl .nil)) (FOp_f (k : Int) op) Tryd.func13 rfl rfl (by simp) rfl ?_
          rintro v77 L77 ⟨rfl, rfl⟩
          change At _ _ _ [R] _
          refine op_assign (nxlf rfl) rfl rfl ?_
          refine At.opsNil ?_
          refine At.norm (hk_83 ?_)
          refine At.seq fun K84 hk_84 => ?_
          refine At.seq fun K85 hk_85 => ?_
          refine At.region ?_
          refine op_move (nxlf rfl) rfl rfl ?_
          refine op_move (nxlf rfl) rfl rfl ?_
          refine At.part (d := 79) rfl (fun g79 => ?_) (fun g79 => ?_)
          · refine op_move (nxgf rfl rfl rfl rfl) rfl rfl ?_
            refine op_not (nxgf rfl rfl rfl rfl) rfl rfl ?_
            refine op_pickT (nxlf rfl) rfl rfl rfl ?_
            refine At.opsNil ?_
            refine At.norm (hk_85 ?_)
            refine At.condB rfl (fun c82 => ?_) (fun c82 => ?_)
            · rw [hadM_next g79 (by omega)] at c82; exact absurd c82 (by decide)
            · refine At.skip ?_
              refine At.norm (hk_84 ?_)
              refine At.region ?_
              refine op_move (nxlf rfl) rfl rfl ?_
              refine op_assign (nxlf rfl) rfl rfl ?_
              refine At.opsNil ?_
              refine At.inNorm ?_
              refine At.norm (hk_82 ?_)
              refine At.region ?_
              refine op_move (nxlf rfl) rfl rfl ?_
              refine op_addI (nxlf rfl) rfl rfl (by omega) (by omega) rfl ?_
              refine op_assign (nxlf rfl) rfl rfl ?_
              refine At.opsNil ?_
              refine At.norm ?_
              refine At.back ?_ (.refl _) ⟨k + 1, rfl, rfl, rfl, by omega⟩ ?_
              · exact .cons (by first | exact lkI rfl (by omega) | rfl) (.cons (by first | exact lkI rfl (by omega) | rfl) (.cons (by first | exact lkI rfl (by omega) | rfl) .nil))
              · omega
          · refine op_skip rfl rfl rfl rfl rfl rfl rfl ?_
            refine op_skip rfl rfl rfl rfl rfl rfl rfl ?_
            refine op_pickF (nxlf rfl) rfl rfl rfl ?_
            refine At.opsNil ?_
            refine At.norm (hk_85 ?_)
            refine At.condF rfl ?_
            refine At.skip ?_
            refine At.norm (hk_84 ?_)
            refine At.region ?_
            refine op_move (nxlf rfl) rfl rfl ?_
            refine op_assign (nxlf rfl) rfl rfl ?_
            refine At.opsNil ?_
            refine At.inNorm ?_
            refine At.norm (hk_82 ?_)
            refine At.region ?_
            refine op_move (nxlf rfl) rfl rfl ?_
            refine op_addI (nxlf rfl) rfl rfl (by omega) (by omega) rfl ?_
            refine op_assign (nxlf rfl) rfl rfl ?_
            refine At.opsNil ?_
            refine At.norm ?_
            refine At.back ?_ (.refl _) ⟨k + 1, rfl, rfl, rfl, by omega⟩ ?_
            · exact .cons (by first | exact lkI rfl (by omega) | rfl) (.cons (by first | exact lkI rfl (by omega) | rfl) (.cons (by first | exact lkI rfl (by omega) | rfl) .nil))
            · omega
        · refine At.exit (At.thenExit (At.thenExit (At.inHit ?_)))
          refine At.norm (hk_78 ?_)
          refine At.seq fun K86 hk_86 => ?_
          refine At.region ?_
          refine op_move (nxlf rfl) rfl rfl ?_
          refine op_callA (nxla rfl) (.cons rfl (.cons rfl .nil)) (FOp_f 16 op) Tryd.func13 rfl rfl (by simp) rfl ?_
          rintro v85 L85 ⟨rfl, rfl⟩
          change At _ _ _ [R] _
          rw [hop16]
          refine op_not (nxlf rfl) rfl rfl ?_
          refine op_move (nxlf rfl) rfl rfl ?_
          refine op_move (nxgf rfl rfl rfl rfl) rfl rfl ?_
          refine op_callA (nxga rfl rfl rfl rfl) (.cons rfl (.cons rfl .nil)) (FOp_f (-1) op) Tryd.func13 rfl rfl (by simp) rfl ?_
          rintro v89 L89 ⟨rfl, rfl⟩
          change At _ _ _ [R] _
          rw [hopn]
          refine op_not (nxgf rfl rfl rfl rfl) rfl rfl ?_
          refine op_pickT (nxlf rfl) rfl rfl rfl ?_
          refine op_move (nxlf rfl) rfl rfl ?_
          refine op_callA (nxga rfl rfl rfl rfl) .nil (Fwakes_f hT) Tryd.func12 rfl rfl (by simp) rfl ?_
          rintro v93 L93 ⟨rfl, rfl⟩
          change At _ _ _ [R] _
          refine op_pickT (nxlf rfl) rfl rfl rfl ?_
          refine op_assign (nxlf rfl) rfl rfl ?_
          refine At.opsNil ?_
          refine At.norm (hk_86 ?_)
          refine At.ret (?_)
          refine At.ret1 (L1 := []) rfl (.tmp rfl .nil) (.refl _) (.refl _) ?_
          exact ⟨rfl, rfl⟩
    · refine op_skip rfl rfl rfl rfl rfl rfl rfl ?_
      refine op_skip rfl rfl rfl rfl rfl rfl rfl ?_
      refine op_skip rfl rfl rfl rfl rfl rfl rfl ?_
      refine op_pickF (nxlf rfl) rfl rfl rfl ?_
      refine op_move (nxlf rfl) rfl rfl ?_
      refine op_skip rfl rfl rfl rfl rfl rfl rfl ?_
      refine op_skip rfl rfl rfl rfl rfl rfl rfl ?_
      refine op_skip rfl rfl rfl rfl rfl rfl rfl ?_
      refine op_pickF (nxlf rfl) rfl rfl rfl ?_
      refine op_move (nxlf rfl) rfl rfl ?_
      refine op_skip rfl rfl rfl rfl rfl rfl rfl ?_
      refine op_skip rfl rfl rfl rfl rfl rfl rfl ?_
      refine op_skip rfl rfl rfl rfl rfl rfl rfl ?_
      refine op_pickF (nxlf rfl) rfl rfl rfl ?_
      refine At.opsNil ?_
      refine At.norm (hk_56 ?_)
      refine At.condF rfl ?_
      refine At.skip ?_
      refine At.norm (hk_55 ?_)
      refine At.seq fun K87 hk_87 => ?_
      refine At.region ?_
      refine op_assign (nxlf rfl) rfl rfl ?_
      refine At.opsNil ?_
      refine At.norm (hk_87 ?_)
      refine At.seq fun K88 hk_88 => ?_
      refine At.seq fun K89 hk_89 => ?_
      refine At.region ?_
      refine op_assign (nxlf rfl) rfl rfl ?_
      refine At.opsNil ?_
      refine At.norm (hk_89 ?_)
      refine At.block ?_
      refine At.sub (L' := [R]) (.cons _ (.cons _ (.cons _ (.cons _ (.cons _ (.cons _ (.cons _ (.cons_cons _ (.slnil))))))))) ?_
      refine At.loop (fun fr_ hp_ ms_ => ∃ (k : Nat), fr_ = [(5, .int .i64 op), (11, .bool (hadM k op)), (12, .int .i64 (k : Int))] ∧ hp_ = [R] ∧ 16 - k = ms_ ∧ (k ≤ 16)) ?_ (.refl _) ⟨0, rfl, rfl, rfl, by omega⟩ ?_
      · exact .cons (by first | exact lkI rfl (by omega) | rfl) (.cons (by first | exact lkI rfl (by omega) | rfl) (.cons (by first | exact lkI rfl (by omega) | rfl) .nil))
      rintro _ _ _ ⟨k, rfl, rfl, rfl, hk⟩
      refine At.seq fun K90 hk_90 => ?_
      refine At.seq fun K91 hk_91 => ?_
      refine At.region ?_
      refine op_move (nxlf rfl) rfl rfl ?_
      refine op_lss (nxlf rfl) rfl rfl rfl ?_
      refine At.opsNil ?_
      refine At.norm (hk_91 ?_)
      refine At.condP rfl (fun c72 => ?_) (fun c72 => ?_)
      · refine At.skip ?_
        refine At.norm (hk_90 ?_)
        refine At.seq fun K92 hk_92 => ?_
        refine At.block ?_
        refine At.seq fun K93 hk_93 => ?_
        refine At.region ?_
        refine op_move (nxlf rfl) rfl rfl ?_
        refine op_move (nxlf rfl) rfl rfl ?_
        refine op_callA (nxla rfl) (.cons rfl (.cons rfl .nil)) (FOp_f (k : Int) op) Tryd.func13 rfl rfl (by simp) rfl ?_
        rintro v77 L77 ⟨rfl, rfl⟩
        change At _ _ _ [R] _
        refine op_assign (nxlf rfl) rfl rfl ?_
        refine At.opsNil ?_
        refine At.norm (hk_93 ?_)
        refine At.seq fun K94 hk_94 => ?_
        refine At.seq fun K95 hk_95 => ?_
        refine At.region ?_
        refine op_move (nxlf rfl) rfl rfl ?_
        refine op_move (nxlf rfl) rfl rfl ?_
        refine At.part (d := 79) rfl (fun g79 => ?_) (fun g79 => ?_)
        · refine op_move (nxgf rfl rfl rfl rfl) rfl rfl ?_
          refine op_not (nxgf rfl rfl rfl rfl) rfl rfl ?_
          refine op_pickT (nxlf rfl) rfl rfl rfl ?_
          refine At.opsNil ?_
          refine At.norm (hk_95 ?_)
          refine At.condB rfl (fun c82 => ?_) (fun c82 => ?_)
          · rw [hadM_next g79 (by omega)] at c82; exact absurd c82 (by decide)
          · refine At.skip ?_
            refine At.norm (hk_94 ?_)
            refine At.region ?_
            refine op_move (nxlf rfl) rfl rfl ?_
            refine op_assign (nxlf rfl) rfl rfl ?_
            refine At.opsNil ?_
            refine At.inNorm ?_
            refine At.norm (hk_92 ?_)
            refine At.region ?_
            refine op_move (nxlf rfl) rfl rfl ?_
            refine op_addI (nxlf rfl) rfl rfl (by omega) (by omega) rfl ?_
            refine op_assign (nxlf rfl) rfl rfl ?_
            refine At.opsNil ?_
            refine At.norm ?_
            refine At.back ?_ (.refl _) ⟨k + 1, rfl, rfl, rfl, by omega⟩ ?_
            · exact .cons (by first | exact lkI rfl (by omega) | rfl) (.cons (by first | exact lkI rfl (by omega) | rfl) (.cons (by first | exact lkI rfl (by omega) | rfl) .nil))
            · omega
        · refine op_skip rfl rfl rfl rfl rfl rfl rfl ?_
          refine op_skip rfl rfl rfl rfl rfl rfl rfl ?_
          refine op_pickF (nxlf rfl) rfl rfl rfl ?_
          refine At.opsNil ?_
          refine At.norm (hk_95 ?_)
          refine At.condF rfl ?_
          refine At.skip ?_
          refine At.norm (hk_94 ?_)
          refine At.region ?_
          refine op_move (nxlf rfl) rfl rfl ?_
          refine op_assign (nxlf rfl) rfl rfl ?_
          refine At.opsNil ?_
          refine At.inNorm ?_
          refine At.norm (hk_92 ?_)
          refine At.region ?_
          refine op_move (nxlf rfl) rfl rfl ?_
          refine op_addI (nxlf rfl) rfl rfl (by omega) (by omega) rfl ?_
          refine op_assign (nxlf rfl) rfl rfl ?_
          refine At.opsNil ?_
          refine At.norm ?_
          refine At.back ?_ (.refl _) ⟨k + 1, rfl, rfl, rfl, by omega⟩ ?_
          · exact .cons (by first | exact lkI rfl (by omega) | rfl) (.cons (by first | exact lkI rfl (by omega) | rfl) (.cons (by first | exact lkI rfl (by omega) | rfl) .nil))
          · omega
      · refine At.exit (At.thenExit (At.thenExit (At.inHit ?_)))
        refine At.norm (hk_88 ?_)
        refine At.seq fun K96 hk_96 => ?_
        refine At.region ?_
        refine op_move (nxlf rfl) rfl rfl ?_
        refine op_callA (nxla rfl) (.cons rfl (.cons rfl .nil)) (FOp_f 16 op) Tryd.func13 rfl rfl (by simp) rfl ?_
        rintro v85 L85 ⟨rfl, rfl⟩
        change At _ _ _ [R] _
        rw [hop16]
        refine op_not (nxlf rfl) rfl rfl ?_
        refine op_move (nxlf rfl) rfl rfl ?_
        refine op_move (nxgf rfl rfl rfl rfl) rfl rfl ?_
        refine op_callA (nxga rfl rfl rfl rfl) (.cons rfl (.cons rfl .nil)) (FOp_f (-1) op) Tryd.func13 rfl rfl (by simp) rfl ?_
        rintro v89 L89 ⟨rfl, rfl⟩
        change At _ _ _ [R] _
        rw [hopn]
        refine op_not (nxgf rfl rfl rfl rfl) rfl rfl ?_
        refine op_pickT (nxlf rfl) rfl rfl rfl ?_
        refine op_move (nxlf rfl) rfl rfl ?_
        refine op_callA (nxga rfl rfl rfl rfl) .nil (Fwakes_f hT) Tryd.func12 rfl rfl (by simp) rfl ?_
        rintro v93 L93 ⟨rfl, rfl⟩
        change At _ _ _ [R] _
        refine op_pickT (nxlf rfl) rfl rfl rfl ?_
        refine op_assign (nxlf rfl) rfl rfl ?_
        refine At.opsNil ?_
        refine At.norm (hk_96 ?_)
        refine At.ret (?_)
        refine At.ret1 (L1 := []) rfl (.tmp rfl .nil) (.refl _) (.refl _) ?_
        exact ⟨rfl, rfl⟩
end
end Go.Proofs.YtoabimaidpbkiaaDoor
