/- quarrylaw04.HexaRunes answers true. Condition: a text behind the rune of at most 2^39 bytes. -/
import Derived.Test.YtlkjfbfenpkmhaaDoorY6
import Derived.Test.YtlkjfbfenpkmhaaDoorY11
namespace Go.Proofs.YtlkjfbfenpkmhaaDoor
set_option linter.unusedVariables false
set_option linter.unusedSimpArgs false
open Go Go.RowKit
theorem encL_len (r : Int) : 0 < (encL r).length ∧ (encL r).length ≤ 4 := by
  unfold encL Utf8.encode
  generalize (if Utf8.valid r then r.toNat else Utf8.runeError) = c
  simp only
  by_cases h1 : c < 128
  · rw [if_pos h1]; exact ⟨by simp, by simp⟩
  · rw [if_neg h1]
    by_cases h2 : c < 2048
    · rw [if_pos h2]; exact ⟨by simp, by simp⟩
    · rw [if_neg h2]
      by_cases h3 : c < 65536
      · rw [if_pos h3]; exact ⟨by simp, by simp⟩
      · rw [if_neg h3]; exact ⟨by simp, by simp⟩
theorem FBytes_w {ds t : List UInt8} (h : ∀ b ∈ ds, hexOk b) (ht : t ≠ []) (hn : hexV (Lib.decodeL t).1 = none) (hl : (48 :: 120 :: ds ++ t).length ≤ 1099511627776) : Fn Tryd.prog 11 #[str (48 :: 120 :: ds ++ t)] [] [] (fun v L => ∃ M a c, v = .tuple #[.slice a 0 c, faultV 2 ((2 + ds.length : Nat) : Int)] ∧ L = [M] ∧ Row M 5 1 a 0 c (u8s [])) := by
  have hF := FBytes_f (48 :: 120 :: ds ++ t) hl
  rw [bytes_wrong h ht hn] at hF
  exact hF
set_option maxRecDepth 100000 in
set_option maxHeartbeats 4000000 in
theorem HexaRunes_f {N : Heaplet} {ao : Option Addr} {n cap : Nat} {l bh : List UInt8} {odd : Bool} {wr : Int} (h : RSl N 1 ao n cap (u8s l)) (hb : bh.length ≤ 549755813888) : Fn Tryd.prog 3 #[.agg #[.slice ao n cap, .bool odd, .int .i32 wr, str bh]] [] [N] (fun v L => v = .bool true ∧ L = []) := by
  obtain ⟨x, hx⟩ : ∃ x, l.take 100 = x := ⟨_, rfl⟩
  have hl : x.length ≤ 100 := by rw [← hx, List.length_take]; omega
  have hxl := hexL_len x
  have hxok := hexL_ok x
  have htl : (hexT x).length ≤ 202 := by rw [hexT_len]; omega
  obtain ⟨w, hw⟩ : ∃ w, encL wr = w := ⟨_, rfl⟩
  have hwl := encL_len wr
  have hfst := fun t => first_same (r := wr) t
  rw [hw] at hwl hfst
  refine Fn.enter (vs := [.agg #[.slice ao n cap, .bool odd, .int .i32 wr, str bh]]) Tryd.func3 rfl rfl rfl ?_
  intro E R hR
  have h := h.le (hR N (by simp))
  change At _ _ E [R] _
  refine At.seq fun K1 hk_1 => ?_
  refine At.region ?_
  refine op_box (nxla rfl) rfl rfl rfl (fun N1 b1 B1 => ?_)
  change Blk N1 b1 _ [.slice ao n cap, .bool odd, .int .i32 wr, str bh] at B1
  refine op_assign (nxlf rfl) rfl rfl ?_
  refine At.opsNil ?_
  refine At.norm (hk_1 ?_)
  refine At.seq fun K2 hk_2 => ?_
  refine At.drawn [] [0,1,2,3,4,5,6,7,8] (by kernel_rfl) (by kernel_rfl) ?_
  refine op_fieldAddr (nxof rfl rfl rfl (by kernel_rfl)) fl24_1 rfl rfl ?_
  refine op_loadB (nxof rfl rfl rfl (by kernel_rfl)) sc4 rfl B1 (by first | rfl) mem0 rfl ?_
  refine op_fieldAddr (nxof rfl rfl rfl (by kernel_rfl)) fl24_2 rfl rfl ?_
  refine op_loadB (nxof rfl rfl rfl (by kernel_rfl)) sc21 rfl B1 (by first | rfl) mem0 rfl ?_
  refine op_fieldAddr (nxof rfl rfl rfl (by kernel_rfl)) fl24_3 rfl rfl ?_
  refine op_loadB (nxof rfl rfl rfl (by kernel_rfl)) sc9 rfl B1 (by first | rfl) mem0 rfl ?_
  refine op_assign (nxof rfl rfl rfl (by kernel_rfl)) rfl rfl ?_
  refine op_assign (nxof rfl rfl rfl (by kernel_rfl)) rfl rfl ?_
  refine op_assign (nxof rfl rfl rfl (by kernel_rfl)) rfl rfl ?_
  refine At.oneNil ?_
  refine At.norm (hk_2 ?_)
  refine At.seq fun K3 hk_3 => ?_
  refine At.region ?_
  refine op_fieldAddr (nxlf rfl) fl24_0 rfl rfl ?_
  refine op_loadB (nxlf rfl) sc22 rfl B1 (by first | rfl) mem0 rfl ?_
  refine op_callA (nxla rfl) (.cons rfl (.cons rfl .nil)) (KTwin_f h 100 100 rfl (by decide)) Tryd.func8 rfl rfl (by simp) rfl ?_
  rintro v21 L21 ⟨M21, p21, c21, rfl, rfl, r21⟩
  change At _ _ _ [M21, N1, R] _
  rw [hx] at r21 ⊢; have s21 := r21.rsl
  refine op_assign (nxlf rfl) rfl rfl ?_
  refine At.opsNil ?_
  refine At.norm (hk_3 ?_)
  refine At.seq fun K4 hk_4 => ?_
  refine At.region ?_
  refine op_move (nxlf rfl) rfl rfl ?_
  refine op_callA (nxla rfl) (.cons rfl .nil) (FText_f s21 (by omega)) Tryd.func9 rfl rfl (by simp) rfl ?_
  rintro v23 L23 ⟨rfl, rfl⟩
  change At _ _ _ [M21, N1, R] _
  refine op_assign (nxlf rfl) rfl rfl ?_
  refine At.opsNil ?_
  refine At.norm (hk_4 ?_)
  refine At.seq fun K5 hk_5 => ?_
  refine At.meet (fun fr_ hp_ => ∃ (ds : List UInt8), fr_ = [(4, .int .i32 wr), (5, str bh), (7, str (48 :: 120 :: ds))] ∧ hp_ = [R] ∧ (∀ b ∈ ds, hexOk b) ∧ (ds.length ≤ 201)) ?_ (fun K5_ jk_5 => ?_)
  rotate_left
  · skip
    refine At.seq fun K6 hk_6 => ?_
    refine At.region ?_
    refine op_move (nxlf rfl) rfl rfl ?_
    refine At.opsNil ?_
    refine At.norm (hk_6 ?_)
    refine At.condB rfl (fun c24 => ?_) (fun c24 => ?_)
    · refine At.region ?_
      refine op_move (nxlf rfl) rfl rfl ?_
      refine op_addS (b := [102]) (nxlf rfl) rfl rfl (by (simp; omega)) rfl ?_
      refine op_assign (nxlf rfl) rfl rfl ?_
      refine At.opsNil ?_
      refine At.sub (L' := [R]) (.cons _ (.cons _ (.cons_cons _ (.slnil)))) ?_
      refine At.norm (jk_5 ?_ (.refl _) ⟨hexL x ++ [102], rfl, rfl, fun b hb => (by rcases List.mem_append.1 hb with hb | hb; exact hxok b hb; obtain rfl := List.mem_singleton.1 hb; exact ⟨by decide, by decide⟩), by rw [List.length_append, List.length_singleton]; omega⟩)
      exact .cons (by first | exact lkI rfl (by omega) | rfl) (.cons (by first | exact lkI rfl (by omega) | rfl) (.cons (by first | exact lkI rfl (by omega) | rfl) .nil))
    · refine At.skip ?_
      refine At.sub (L' := [R]) (.cons _ (.cons _ (.cons_cons _ (.slnil)))) ?_
      refine At.norm (jk_5 ?_ (.refl _) ⟨hexL x, rfl, rfl, hxok, by omega⟩)
      exact .cons (by first | exact lkI rfl (by omega) | rfl) (.cons (by first | exact lkI rfl (by omega) | rfl) (.cons (by first | exact lkI rfl (by omega) | rfl) .nil))
  rintro _ _ ⟨ds, rfl, rfl, hds, hdl⟩
  refine hk_5 ?_
  refine At.seq fun K7 hk_7 => ?_
  refine At.region ?_
  refine op_move (nxlf rfl) rfl rfl ?_
  refine op_runeS (nxlf rfl) (und_some Tryd.underlying21) Tryd.underlying9 rfl rfl ?_
  rw [hw]
  refine op_assign (nxlf rfl) rfl rfl ?_
  refine At.opsNil ?_
  refine At.norm (hk_7 ?_)
  refine At.seq fun K8 hk_8 => ?_
  refine At.seq fun K9 hk_9 => ?_
  refine At.region ?_
  refine op_move (nxlf rfl) rfl rfl ?_
  refine op_rangeS (nxla rfl) Tryd.underlying9 rfl rfl (fun N30 b30 I30 => ?_)
  refine At.opsNil ?_
  refine At.norm (hk_9 ?_)
  refine At.block ?_
  refine At.loop (fun fr_ hp_ ms_ => ∃ (q : Nat) (N30 : Heaplet), fr_ = [(5, str bh), (7, str (48 :: 120 :: ds)), (8, str w), (30, .pointer (some ⟨b30, 0, none⟩))] ∧ hp_ = [N30, R] ∧ w.length - q = ms_ ∧ (q = 0 ∨ hexV (Lib.decodeL w).1 = none) ∧ (IterH N30 b30 w q)) ?_ (.refl _) ⟨0, N30, rfl, rfl, rfl, .inl rfl, I30⟩ ?_
  · exact .cons (by first | exact lkI rfl (by omega) | rfl) (.cons (by first | exact lkI rfl (by omega) | rfl) (.cons (by first | exact lkI rfl (by omega) | rfl) (.cons (by first | exact lkI rfl (by omega) | rfl) .nil)))
  rintro _ _ _ ⟨q, N30, rfl, rfl, rfl, hq, I30⟩
  refine At.seq fun K10 hk_10 => ?_
  refine At.region ?_
  refine op_nextS (nxl rfl) rfl I30 sel0 rfl (fun N30 I30 => ?_)
  refine op_nx0 (nxlf rfl) rfl rfl ?_
  refine At.opsNil ?_
  refine At.norm (hk_10 ?_)
  refine At.seq fun K11 hk_11 => ?_
  refine At.condP rfl (fun c32 => ?_) (fun c32 => ?_)
  · have hlt : q < w.length := c32
    have hnp := nextP_y hlt
    have hw1 := Lib.decodeL_width (w.drop q)
    have hnext : hexV (runeAt w q) = none → hexV (Lib.decodeL w).1 = none := fun e => by
      rcases hq with rfl | hq
      · exact e
      · exact hq
    refine At.skip ?_
    refine At.norm (hk_11 ?_)
    refine At.block ?_
    refine At.seq fun K12 hk_12 => ?_
    refine At.region ?_
    refine op_nx2 (nxlf rfl) rfl (by omega) rfl ?_
    refine op_assign (nxlf rfl) rfl rfl ?_
    refine At.opsNil ?_
    refine At.norm (hk_12 ?_)
    refine At.seq fun K13 hk_13 => ?_
    refine At.region ?_
    refine op_move (nxlf rfl) rfl rfl ?_
    refine op_geq (nxlf rfl) rfl rfl rfl ?_
    refine op_move (nxlf rfl) rfl rfl ?_
    refine At.partP (d := 36) rfl (fun g36 => ?_) (fun g36 => ?_)
    · refine op_move (nxgf rfl rfl rfl rfl) rfl rfl ?_
      refine op_leq (nxgf rfl rfl rfl rfl) rfl rfl rfl ?_
      refine op_pickT (nxlf rfl) rfl rfl rfl ?_
      refine op_move (nxlf rfl) rfl rfl ?_
      refine At.partP (d := 40) rfl (fun g40 => ?_) (fun g40 => ?_)
      · refine op_skip rfl rfl rfl rfl rfl rfl rfl ?_
        refine op_skip rfl rfl rfl rfl rfl rfl rfl ?_
        refine op_skip rfl rfl rfl rfl rfl rfl rfl ?_
        refine op_skipU rfl rfl rfl rfl rfl rfl ?_
        refine op_skipU rfl rfl rfl rfl rfl rfl ?_
        refine op_skip rfl rfl rfl rfl rfl rfl rfl ?_
        refine op_pickT (nxlf rfl) rfl rfl rfl ?_
        refine op_move (nxlf rfl) rfl rfl ?_
        refine op_skip rfl rfl rfl rfl rfl rfl rfl ?_
        refine op_skip rfl rfl rfl rfl rfl rfl rfl ?_
        refine op_skip rfl rfl rfl rfl rfl rfl rfl ?_
        refine op_skipU rfl rfl rfl rfl rfl rfl ?_
        refine op_skipU rfl rfl rfl rfl rfl rfl ?_
        refine op_skip rfl rfl rfl rfl rfl rfl rfl ?_
        refine op_pickT (nxlf rfl) rfl rfl rfl ?_
        refine At.opsNil ?_
        refine At.norm (hk_13 ?_)
        refine At.condT rfl ?_
        refine At.seq fun K14 hk_14 => ?_
        refine At.region ?_
        refine op_callA (nxla rfl) .nil (HWakes_f) Tryd.func10 rfl rfl (by simp) rfl ?_
        rintro v56 L56 ⟨rfl, rfl⟩
        change At _ _ _ [N30, R] _
        refine op_assign (nxlf rfl) rfl rfl ?_
        refine At.opsNil ?_
        refine At.norm (hk_14 ?_)
        refine At.ret (At.inRet (At.thenRet (At.inRet (At.thenRet (?_)))))
        refine At.sub (L' := [R]) (.cons _ (.cons_cons _ (.slnil))) ?_
        refine At.ret1 (L1 := []) rfl (.tmp rfl .nil) (.refl _) (.refl _) ?_
        exact ⟨rfl, rfl⟩
      · refine op_move (nxgf rfl rfl rfl rfl) rfl rfl ?_
        refine op_geq (nxgf rfl rfl rfl rfl) rfl rfl rfl ?_
        refine op_move (nxgf rfl rfl rfl rfl) rfl rfl ?_
        refine At.partP (d := 43) rfl (fun g43 => ?_) (fun g43 => ?_)
        · refine op_move (nxgf rfl rfl rfl rfl) rfl rfl ?_
          refine op_leq (nxgf rfl rfl rfl rfl) rfl rfl rfl ?_
          refine op_pickT (nxgf rfl rfl rfl rfl) rfl rfl rfl ?_
          refine op_pickF (nxlf rfl) rfl rfl rfl ?_
          refine op_move (nxlf rfl) rfl rfl ?_
          refine At.partP (d := 48) rfl (fun g48 => ?_) (fun g48 => ?_)
          · refine op_skip rfl rfl rfl rfl rfl rfl rfl ?_
            refine op_skip rfl rfl rfl rfl rfl rfl rfl ?_
            refine op_skip rfl rfl rfl rfl rfl rfl rfl ?_
            refine op_skipU rfl rfl rfl rfl rfl rfl ?_
            refine op_skipU rfl rfl rfl rfl rfl rfl ?_
            refine op_skip rfl rfl rfl rfl rfl rfl rfl ?_
            refine op_pickT (nxlf rfl) rfl rfl rfl ?_
            refine At.opsNil ?_
            refine At.norm (hk_13 ?_)
            refine At.condT rfl ?_
            refine At.seq fun K15 hk_15 => ?_
            refine At.region ?_
            refine op_callA (nxla rfl) .nil (HWakes_f) Tryd.func10 rfl rfl (by simp) rfl ?_
            rintro v56 L56 ⟨rfl, rfl⟩
            change At _ _ _ [N30, R] _
            refine op_assign (nxlf rfl) rfl rfl ?_
            refine At.opsNil ?_
            refine At.norm (hk_15 ?_)
            refine At.ret (At.inRet (At.thenRet (At.inRet (At.thenRet (?_)))))
            refine At.sub (L' := [R]) (.cons _ (.cons_cons _ (.slnil))) ?_
            refine At.ret1 (L1 := []) rfl (.tmp rfl .nil) (.refl _) (.refl _) ?_
            exact ⟨rfl, rfl⟩
          · refine op_move (nxgf rfl rfl rfl rfl) rfl rfl ?_
            refine op_geq (nxgf rfl rfl rfl rfl) rfl rfl rfl ?_
            refine op_move (nxgf rfl rfl rfl rfl) rfl rfl ?_
            refine At.partP (d := 51) rfl (fun g51 => ?_) (fun g51 => ?_)
            · refine op_move (nxgf rfl rfl rfl rfl) rfl rfl ?_
              refine op_leq (nxgf rfl rfl rfl rfl) rfl rfl rfl ?_
              refine op_pickT (nxgf rfl rfl rfl rfl) rfl rfl rfl ?_
              refine op_pickF (nxlf rfl) rfl rfl rfl ?_
              refine At.opsNil ?_
              refine At.norm (hk_13 ?_)
              refine At.condP rfl (fun c55 => ?_) (fun c55 => ?_)
              · refine At.seq fun K16 hk_16 => ?_
                refine At.region ?_
                refine op_callA (nxla rfl) .nil (HWakes_f) Tryd.func10 rfl rfl (by simp) rfl ?_
                rintro v56 L56 ⟨rfl, rfl⟩
                change At _ _ _ [N30, R] _
                refine op_assign (nxlf rfl) rfl rfl ?_
                refine At.opsNil ?_
                refine At.norm (hk_16 ?_)
                refine At.ret (At.inRet (At.thenRet (At.inRet (At.thenRet (?_)))))
                refine At.sub (L' := [R]) (.cons _ (.cons_cons _ (.slnil))) ?_
                refine At.ret1 (L1 := []) rfl (.tmp rfl .nil) (.refl _) (.refl _) ?_
                exact ⟨rfl, rfl⟩
              · refine At.skip ?_
                refine At.inNorm ?_
                refine At.norm ?_
                refine At.back ?_ (.refl _) ⟨nextP w q, N30, rfl, rfl, rfl, .inr (hnext (by rw [hexV, if_neg (by omega), if_neg (by omega), if_neg (by omega)])), I30⟩ ?_
                · exact .cons (by first | exact lkI rfl (by omega) | rfl) (.cons (by first | exact lkI rfl (by omega) | rfl) (.cons (by first | exact lkI rfl (by omega) | rfl) (.cons (by first | exact lkI rfl (by omega) | rfl) .nil)))
                · (rw [hnp]; omega)
            · refine op_skip rfl rfl rfl rfl rfl rfl rfl ?_
              refine op_skip rfl rfl rfl rfl rfl rfl rfl ?_
              refine op_pickF (nxgf rfl rfl rfl rfl) rfl rfl rfl ?_
              refine op_pickF (nxlf rfl) rfl rfl rfl ?_
              refine At.opsNil ?_
              refine At.norm (hk_13 ?_)
              refine At.condF rfl ?_
              refine At.skip ?_
              refine At.inNorm ?_
              refine At.norm ?_
              refine At.back ?_ (.refl _) ⟨nextP w q, N30, rfl, rfl, rfl, .inr (hnext (by rw [hexV, if_neg (by omega), if_neg (by omega), if_neg (by omega)])), I30⟩ ?_
              · exact .cons (by first | exact lkI rfl (by omega) | rfl) (.cons (by first | exact lkI rfl (by omega) | rfl) (.cons (by first | exact lkI rfl (by omega) | rfl) (.cons (by first | exact lkI rfl (by omega) | rfl) .nil)))
              · (rw [hnp]; omega)
        · refine op_skip rfl rfl rfl rfl rfl rfl rfl ?_
          refine op_skip rfl rfl rfl rfl rfl rfl rfl ?_
          refine op_pickF (nxgf rfl rfl rfl rfl) rfl rfl rfl ?_
          refine op_pickF (nxlf rfl) rfl rfl rfl ?_
          refine op_move (nxlf rfl) rfl rfl ?_
          refine op_move (nxgf rfl rfl rfl rfl) rfl rfl ?_
          refine op_geq (nxgf rfl rfl rfl rfl) rfl rfl rfl ?_
          refine op_move (nxgf rfl rfl rfl rfl) rfl rfl ?_
          refine At.partP (d := 51) rfl (fun g51 => ?_) (fun g51 => ?_)
          · refine op_move (nxgf rfl rfl rfl rfl) rfl rfl ?_
            refine op_leq (nxgf rfl rfl rfl rfl) rfl rfl rfl ?_
            refine op_pickT (nxgf rfl rfl rfl rfl) rfl rfl rfl ?_
            refine op_pickF (nxlf rfl) rfl rfl rfl ?_
            refine At.opsNil ?_
            refine At.norm (hk_13 ?_)
            refine At.condP rfl (fun c55 => ?_) (fun c55 => ?_)
            · refine At.seq fun K17 hk_17 => ?_
              refine At.region ?_
              refine op_callA (nxla rfl) .nil (HWakes_f) Tryd.func10 rfl rfl (by simp) rfl ?_
              rintro v56 L56 ⟨rfl, rfl⟩
              change At _ _ _ [N30, R] _
              refine op_assign (nxlf rfl) rfl rfl ?_
              refine At.opsNil ?_
              refine At.norm (hk_17 ?_)
              refine At.ret (At.inRet (At.thenRet (At.inRet (At.thenRet (?_)))))
              refine At.sub (L' := [R]) (.cons _ (.cons_cons _ (.slnil))) ?_
              refine At.ret1 (L1 := []) rfl (.tmp rfl .nil) (.refl _) (.refl _) ?_
              exact ⟨rfl, rfl⟩
            · refine At.skip ?_
              refine At.inNorm ?_
              refine At.norm ?_
              refine At.back ?_ (.refl _) ⟨nextP w q, N30, rfl, rfl, rfl, .inr (hnext (by rw [hexV, if_neg (by omega), if_neg (by omega), if_neg (by omega)])), I30⟩ ?_
              · exact .cons (by first | exact lkI rfl (by omega) | rfl) (.cons (by first | exact lkI rfl (by omega) | rfl) (.cons (by first | exact lkI rfl (by omega) | rfl) (.cons (by first | exact lkI rfl (by omega) | rfl) .nil)))
              · (rw [hnp]; omega)
          · refine op_skip rfl rfl rfl rfl rfl rfl rfl ?_
            refine op_skip rfl rfl rfl rfl rfl rfl rfl ?_
            refine op_pickF (nxgf rfl rfl rfl rfl) rfl rfl rfl ?_
            refine op_pickF (nxlf rfl) rfl rfl rfl ?_
            refine At.opsNil ?_
            refine At.norm (hk_13 ?_)
            refine At.condF rfl ?_
            refine At.skip ?_
            refine At.inNorm ?_
            refine At.norm ?_
            refine At.back ?_ (.refl _) ⟨nextP w q, N30, rfl, rfl, rfl, .inr (hnext (by rw [hexV, if_neg (by omega), if_neg (by omega), if_neg (by omega)])), I30⟩ ?_
            · exact .cons (by first | exact lkI rfl (by omega) | rfl) (.cons (by first | exact lkI rfl (by omega) | rfl) (.cons (by first | exact lkI rfl (by omega) | rfl) (.cons (by first | exact lkI rfl (by omega) | rfl) .nil)))
            · (rw [hnp]; omega)
    · refine op_skip rfl rfl rfl rfl rfl rfl rfl ?_
      refine op_skip rfl rfl rfl rfl rfl rfl rfl ?_
      refine op_pickF (nxlf rfl) rfl rfl rfl ?_
      refine op_move (nxlf rfl) rfl rfl ?_
      refine op_move (nxgf rfl rfl rfl rfl) rfl rfl ?_
      refine op_geq (nxgf rfl rfl rfl rfl) rfl rfl rfl ?_
      refine op_move (nxgf rfl rfl rfl rfl) rfl rfl ?_
      refine At.partP (d := 43) rfl (fun g43 => ?_) (fun g43 => ?_)
      · refine op_move (nxgf rfl rfl rfl rfl) rfl rfl ?_
        refine op_leq (nxgf rfl rfl rfl rfl) rfl rfl rfl ?_
        refine op_pickT (nxgf rfl rfl rfl rfl) rfl rfl rfl ?_
        refine op_pickF (nxlf rfl) rfl rfl rfl ?_
        refine op_move (nxlf rfl) rfl rfl ?_
        refine At.partP (d := 48) rfl (fun g48 => ?_) (fun g48 => ?_)
        · refine op_skip rfl rfl rfl rfl rfl rfl rfl ?_
          refine op_skip rfl rfl rfl rfl rfl rfl rfl ?_
          refine op_skip rfl rfl rfl rfl rfl rfl rfl ?_
          refine op_skipU rfl rfl rfl rfl rfl rfl ?_
          refine op_skipU rfl rfl rfl rfl rfl rfl ?_
          refine op_skip rfl rfl rfl rfl rfl rfl rfl ?_
          refine op_pickT (nxlf rfl) rfl rfl rfl ?_
          refine At.opsNil ?_
          refine At.norm (hk_13 ?_)
          refine At.condT rfl ?_
          refine At.seq fun K18 hk_18 => ?_
          refine At.region ?_
          refine op_callA (nxla rfl) .nil (HWakes_f) Tryd.func10 rfl rfl (by simp) rfl ?_
          rintro v56 L56 ⟨rfl, rfl⟩
          change At _ _ _ [N30, R] _
          refine op_assign (nxlf rfl) rfl rfl ?_
          refine At.opsNil ?_
          refine At.norm (hk_18 ?_)
          refine At.ret (At.inRet (At.thenRet (At.inRet (At.thenRet (?_)))))
          refine At.sub (L' := [R]) (.cons _ (.cons_cons _ (.slnil))) ?_
          refine At.ret1 (L1 := []) rfl (.tmp rfl .nil) (.refl _) (.refl _) ?_
          exact ⟨rfl, rfl⟩
        · refine op_move (nxgf rfl rfl rfl rfl) rfl rfl ?_
          refine op_geq (nxgf rfl rfl rfl rfl) rfl rfl rfl ?_
          refine op_move (nxgf rfl rfl rfl rfl) rfl rfl ?_
          refine At.partP (d := 51) rfl (fun g51 => ?_) (fun g51 => ?_)
          · refine op_move (nxgf rfl rfl rfl rfl) rfl rfl ?_
            refine op_leq (nxgf rfl rfl rfl rfl) rfl rfl rfl ?_
            refine op_pickT (nxgf rfl rfl rfl rfl) rfl rfl rfl ?_
            refine op_pickF (nxlf rfl) rfl rfl rfl ?_
            refine At.opsNil ?_
            refine At.norm (hk_13 ?_)
            refine At.condP rfl (fun c55 => ?_) (fun c55 => ?_)
            · refine At.seq fun K19 hk_19 => ?_
              refine At.region ?_
              refine op_callA (nxla rfl) .nil (HWakes_f) Tryd.func10 rfl rfl (by simp) rfl ?_
              rintro v56 L56 ⟨rfl, rfl⟩
              change At _ _ _ [N30, R] _
              refine op_assign (nxlf rfl) rfl rfl ?_
              refine At.opsNil ?_
              refine At.norm (hk_19 ?_)
              refine At.ret (At.inRet (At.thenRet (At.inRet (At.thenRet (?_)))))
              refine At.sub (L' := [R]) (.cons _ (.cons_cons _ (.slnil))) ?_
              refine At.ret1 (L1 := []) rfl (.tmp rfl .nil) (.refl _) (.refl _) ?_
              exact ⟨rfl, rfl⟩
            · refine At.skip ?_
              refine At.inNorm ?_
              refine At.norm ?_
              refine At.back ?_ (.refl _) ⟨nextP w q, N30, rfl, rfl, rfl, .inr (hnext (by rw [hexV, if_neg (by omega), if_neg (by omega), if_neg (by omega)])), I30⟩ ?_
              · exact .cons (by first | exact lkI rfl (by omega) | rfl) (.cons (by first | exact lkI rfl (by omega) | rfl) (.cons (by first | exact lkI rfl (by omega) | rfl) (.cons (by first | exact lkI rfl (by omega) | rfl) .nil)))
              · (rw [hnp]; omega)
          · refine op_skip rfl rfl rfl rfl rfl rfl rfl ?_
            refine op_skip rfl rfl rfl rfl rfl rfl rfl ?_
            refine op_pickF (nxgf rfl rfl rfl rfl) rfl rfl rfl ?_
            refine op_pickF (nxlf rfl) rfl rfl rfl ?_
            refine At.opsNil ?_
            refine At.norm (hk_13 ?_)
            refine At.condF rfl ?_
            refine At.skip ?_
            refine At.inNorm ?_
            refine At.norm ?_
            refine At.back ?_ (.refl _) ⟨nextP w q, N30, rfl, rfl, rfl, .inr (hnext (by rw [hexV, if_neg (by omega), if_neg (by omega), if_neg (by omega)])), I30⟩ ?_
            · exact .cons (by first | exact lkI rfl (by omega) | rfl) (.cons (by first | exact lkI rfl (by omega) | rfl) (.cons (by first | exact lkI rfl (by omega) | rfl) (.cons (by first | exact lkI rfl (by omega) | rfl) .nil)))
            · (rw [hnp]; omega)
      · refine op_skip rfl rfl rfl rfl rfl rfl rfl ?_
        refine op_skip rfl rfl rfl rfl rfl rfl rfl ?_
        refine op_pickF (nxgf rfl rfl rfl rfl) rfl rfl rfl ?_
        refine op_pickF (nxlf rfl) rfl rfl rfl ?_
        refine op_move (nxlf rfl) rfl rfl ?_
        refine op_move (nxgf rfl rfl rfl rfl) rfl rfl ?_
        refine op_geq (nxgf rfl rfl rfl rfl) rfl rfl rfl ?_
        refine op_move (nxgf rfl rfl rfl rfl) rfl rfl ?_
        refine At.partP (d := 51) rfl (fun g51 => ?_) (fun g51 => ?_)
        · refine op_move (nxgf rfl rfl rfl rfl) rfl rfl ?_
          refine op_leq (nxgf rfl rfl rfl rfl) rfl rfl rfl ?_
          refine op_pickT (nxgf rfl rfl rfl rfl) rfl rfl rfl ?_
          refine op_pickF (nxlf rfl) rfl rfl rfl ?_
          refine At.opsNil ?_
          refine At.norm (hk_13 ?_)
          refine At.condP rfl (fun c55 => ?_) (fun c55 => ?_)
          · refine At.seq fun K20 hk_20 => ?_
            refine At.region ?_
            refine op_callA (nxla rfl) .nil (HWakes_f) Tryd.func10 rfl rfl (by simp) rfl ?_
            rintro v56 L56 ⟨rfl, rfl⟩
            change At _ _ _ [N30, R] _
            refine op_assign (nxlf rfl) rfl rfl ?_
            refine At.opsNil ?_
            refine At.norm (hk_20 ?_)
            refine At.ret (At.inRet (At.thenRet (At.inRet (At.thenRet (?_)))))
            refine At.sub (L' := [R]) (.cons _ (.cons_cons _ (.slnil))) ?_
            refine At.ret1 (L1 := []) rfl (.tmp rfl .nil) (.refl _) (.refl _) ?_
            exact ⟨rfl, rfl⟩
          · refine At.skip ?_
            refine At.inNorm ?_
            refine At.norm ?_
            refine At.back ?_ (.refl _) ⟨nextP w q, N30, rfl, rfl, rfl, .inr (hnext (by rw [hexV, if_neg (by omega), if_neg (by omega), if_neg (by omega)])), I30⟩ ?_
            · exact .cons (by first | exact lkI rfl (by omega) | rfl) (.cons (by first | exact lkI rfl (by omega) | rfl) (.cons (by first | exact lkI rfl (by omega) | rfl) (.cons (by first | exact lkI rfl (by omega) | rfl) .nil)))
            · (rw [hnp]; omega)
        · refine op_skip rfl rfl rfl rfl rfl rfl rfl ?_
          refine op_skip rfl rfl rfl rfl rfl rfl rfl ?_
          refine op_pickF (nxgf rfl rfl rfl rfl) rfl rfl rfl ?_
          refine op_pickF (nxlf rfl) rfl rfl rfl ?_
          refine At.opsNil ?_
          refine At.norm (hk_13 ?_)
          refine At.condF rfl ?_
          refine At.skip ?_
          refine At.inNorm ?_
          refine At.norm ?_
          refine At.back ?_ (.refl _) ⟨nextP w q, N30, rfl, rfl, rfl, .inr (hnext (by rw [hexV, if_neg (by omega), if_neg (by omega), if_neg (by omega)])), I30⟩ ?_
          · exact .cons (by first | exact lkI rfl (by omega) | rfl) (.cons (by first | exact lkI rfl (by omega) | rfl) (.cons (by first | exact lkI rfl (by omega) | rfl) (.cons (by first | exact lkI rfl (by omega) | rfl) .nil)))
          · (rw [hnp]; omega)
  · have hnone : hexV (Lib.decodeL w).1 = none := by
      rcases hq with rfl | hq
      · exact absurd hwl.1 c32
      · exact hq
    have hne : w ++ bh ≠ [] := fun e => by
      have := congrArg List.length e
      rw [List.length_append, List.length_nil] at this
      omega
    have hbig : (48 :: 120 :: ds ++ (w ++ bh)).length ≤ 1099511627776 := by simp only [List.length_append, List.length_cons]; omega
    have hF := FBytes_w hds hne (hfst bh hnone) hbig
    refine At.exit (At.thenExit (At.thenExit (At.inHit ?_)))
    refine At.norm (hk_8 ?_)
    refine At.seq fun K21 hk_21 => ?_
    refine At.region ?_
    refine op_move (nxlf rfl) rfl rfl ?_
    refine op_move (nxlf rfl) rfl rfl ?_
    refine op_addS (nxlf rfl) rfl rfl (by (simp; omega)) rfl ?_
    refine op_move (nxlf rfl) rfl rfl ?_
    refine op_addS (nxlf rfl) rfl rfl (by (simp; omega)) rfl ?_
    rw [List.append_assoc]
    refine op_callA (nxla rfl) (.cons rfl .nil) (hF) Tryd.func11 rfl rfl (by simp) rfl ?_
    rintro v63 L63 ⟨M63, p63, c63, rfl, rfl, r63⟩
    change At _ _ _ [M63, N30, R] _
    refine op_move (nxlf rfl) rfl rfl ?_
    refine op_extract (nxlf rfl) rfl rfl rfl ?_
    refine op_extract (nxlf rfl) rfl rfl rfl ?_
    refine op_alloc (nxla rfl) ze30 rfl (fun N12 b12 B12 => ?_)
    change Blk N12 b12 _ [.int .i64 0, .int .i64 0] at B12
    refine op_assign (nxlf rfl) rfl rfl ?_
    refine op_store (nxl rfl) sz30 rfl rfl rfl rfl rfl B12 (by simp) sel0 (fun N12 B12 => ?_)
    simp only [setL, List.set] at B12
    refine At.opsNil ?_
    refine At.norm (hk_21 ?_)
    refine At.seq fun K22 hk_22 => ?_
    refine At.region ?_
    refine op_move (nxlf rfl) rfl rfl ?_
    refine op_lenS (nxlf rfl) se22 rfl rfl ?_
    refine op_eql (nxlf rfl) rfl rfl rfl ?_
    change At _ ((68, .bool true) :: _) _ _ _
    refine op_move (nxlf rfl) rfl rfl ?_
    refine op_fieldAddr (nxgf rfl rfl rfl rfl) fl30_0 rfl rfl ?_
    refine op_loadB (nxgf rfl rfl rfl rfl) sc28 rfl B12 (by first | rfl) mem0 rfl ?_
    refine op_eql (nxgf rfl rfl rfl rfl) rfl rfl rfl ?_
    change At _ ((72, .bool true) :: _) _ _ _
    refine op_pickT (nxlf rfl) rfl rfl rfl ?_
    refine op_move (nxlf rfl) rfl rfl ?_
    refine op_fieldAddr (nxgf rfl rfl rfl rfl) fl30_1 rfl rfl ?_
    refine op_loadB (nxgf rfl rfl rfl rfl) sc3 rfl B12 (by first | rfl) mem0 rfl ?_
    refine op_move (nxgf rfl rfl rfl rfl) rfl rfl ?_
    refine op_lenStr (nxgf rfl rfl rfl rfl) Tryd.underlying9 rfl rfl ?_
    refine op_eql (nxgf rfl rfl rfl rfl) rfl rfl rfl ?_
    rw [decide_eq_true (show ((2 + ds.length : Nat) : Int) = ((48 :: 120 :: ds : List UInt8).length : Int) by simp; omega)]
    refine op_pickT (nxlf rfl) rfl rfl rfl ?_
    refine op_move (nxlf rfl) rfl rfl ?_
    refine op_callA (nxga rfl rfl rfl rfl) .nil (HWakes_f) Tryd.func10 rfl rfl (by simp) rfl ?_
    rintro v82 L82 ⟨rfl, rfl⟩
    change At _ _ _ [N12, M63, N30, R] _
    refine op_pickT (nxlf rfl) rfl rfl rfl ?_
    refine op_assign (nxlf rfl) rfl rfl ?_
    refine At.opsNil ?_
    refine At.norm (hk_22 ?_)
    refine At.ret (?_)
    refine At.sub (L' := [R]) (.cons _ (.cons _ (.cons _ (.cons_cons _ (.slnil))))) ?_
    refine At.ret1 (L1 := []) rfl (.tmp rfl .nil) (.refl _) (.refl _) ?_
    exact ⟨rfl, rfl⟩
end Go.Proofs.YtlkjfbfenpkmhaaDoor
