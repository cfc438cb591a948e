/- quarrylaw04.HexaOwn answers true. Condition: a text of at most 2^40 bytes. -/
import Derived.Test.YtlkjfbfenpkmhaaDoorU7
import Derived.Test.YtlkjfbfenpkmhaaDoorU12
namespace Go.Proofs.YtlkjfbfenpkmhaaDoor
set_option linter.unusedVariables false
set_option linter.unusedSimpArgs false
open Go Go.RowKit
theorem bytesR_len (s : List UInt8) : (bytesR s).1.length ≤ s.length := by
  have h1 := readF_len (ask := fun _ => 0) (runesOf s) 0 []
  have h2 := runes_len s
  unfold bytesR
  simp only
  split
  · exact Nat.zero_le _
  · split
    · exact Nat.zero_le _
    · simp only [hexPs_len, List.length_nil] at *
      omega
set_option maxRecDepth 100000 in
set_option maxHeartbeats 4000000 in
theorem HexaOwn_f {N : Heaplet} {ao : Option Addr} {n cap : Nat} {l s : List UInt8} (h : RSl N 1 ao n cap (u8s l)) (hs : s.length ≤ 1099511627776) : Fn Tryd.prog 4 #[.slice ao n cap, str s] [] [N] (fun v L => v = .bool true ∧ L = []) := by
  obtain ⟨x, hx⟩ : ∃ x, l.take 200 = x := ⟨_, rfl⟩
  have hl : x.length ≤ 200 := by rw [← hx, List.length_take]; omega
  have htl : (hexT x).length ≤ 402 := by rw [hexT_len]; omega
  have hF1 := FBytes_f (hexT x) (by omega)
  have hF2 := FBytes_f s hs
  have hl1 := bytesR_len (hexT x)
  have hl2 := bytesR_len s
  generalize bytesR (hexT x) = y1 at hF1 hl1
  generalize bytesR s = y2 at hF2 hl2
  obtain ⟨d, w1, p1⟩ := y1
  obtain ⟨e, w2, p2⟩ := y2
  simp only at hl1 hl2
  replace hF1 : Fn Tryd.prog 11 #[str (hexT x)] [] [] (fun v L => ∃ M a c, v = .tuple #[.slice a d.length c, faultV (w1 : Int) (p1 : Int)] ∧ L = [M] ∧ Row M 5 1 a d.length c (u8s d)) := hF1
  replace hF2 : Fn Tryd.prog 11 #[str s] [] [] (fun v L => ∃ M a c, v = .tuple #[.slice a e.length c, faultV (w2 : Int) (p2 : Int)] ∧ L = [M] ∧ Row M 5 1 a e.length c (u8s e)) := hF2
  refine Fn.enter (vs := [.slice ao n cap, str s]) Tryd.func4 rfl rfl rfl ?_
  intro E R hR
  have h := h.le (hR N (by simp))
  change At _ _ E [R] _
  refine At.seq fun K1 hk_1 => ?_
  refine At.region ?_
  refine op_assign (nxlf rfl) rfl rfl ?_
  refine At.opsNil ?_
  refine At.norm (hk_1 ?_)
  refine At.seq fun K2 hk_2 => ?_
  refine At.region ?_
  refine op_build (out := [.slice none 0 0, .slice none 0 0]) (nxlf rfl) ze37 pl37 .nil rfl rfl ?_
  refine op_box (nxla rfl) rfl rfl rfl (fun N12 b12 B12 => ?_)
  refine op_assign (nxlf rfl) rfl rfl ?_
  refine At.opsNil ?_
  refine At.norm (hk_2 ?_)
  refine At.seq fun K3 hk_3 => ?_
  refine At.region ?_
  refine op_build (out := [.slice none 0 0, .slice none 0 0, .slice none 0 0, .slice none 0 0, .int .i64 0]) (nxlf rfl) ze40 pl40 .nil rfl rfl ?_
  refine op_box (nxla rfl) rfl rfl rfl (fun N14 b14 B14 => ?_)
  refine op_assign (nxlf rfl) rfl rfl ?_
  refine At.opsNil ?_
  refine At.norm (hk_3 ?_)
  refine At.seq fun K4 hk_4 => ?_
  refine At.seq fun K5 hk_5 => ?_
  refine At.region ?_
  refine op_assign (nxlf rfl) rfl rfl ?_
  refine At.opsNil ?_
  refine At.norm (hk_5 ?_)
  refine At.block ?_
  have hL0 := Loan.start B12
  have hB0 := Book.start B14
  refine At.empty ?_
  refine At.empty ?_
  refine At.perm sel4 ?_
  refine At.perm sel1 ?_
  refine At.perm sel3 ?_
  refine At.perm sel3 ?_
  refine At.perm sel4 ?_
  refine At.loop (fun fr_ hp_ ms_ => ∃ (i : Nat) (NL NI NB NJ : Heaplet), fr_ = [(0, .slice ao n cap), (1, str s), (5, .pointer (some ⟨b12, 0, none⟩)), (6, .pointer (some ⟨b14, 0, none⟩)), (7, .int .i64 (i : Int))] ∧ hp_ = [NL, NI, NB, NJ, R] ∧ 3 - i = ms_ ∧ (i ≤ 3) ∧ (Loan b12 NL NI i) ∧ (Book b14 NB NJ)) ?_ (.refl _) ⟨0, N12, nilH, N14, nilH, rfl, rfl, rfl, by omega, hL0, hB0⟩ ?_
  · exact .cons (by first | exact lkI rfl (by omega) | rfl) (.cons (by first | exact lkI rfl (by omega) | rfl) (.cons (by first | exact lkI rfl (by omega) | rfl) (.cons (by first | exact lkI rfl (by omega) | rfl) (.cons (by first | exact lkI rfl (by omega) | rfl) .nil))))
  rintro _ _ _ ⟨i, NL, NI, NB, NJ, rfl, rfl, rfl, hi, hL, hB⟩
  refine At.seq fun K6 hk_6 => ?_
  refine At.seq fun K7 hk_7 => ?_
  refine At.region ?_
  refine op_move (nxlf rfl) rfl rfl ?_
  refine op_lss (nxlf rfl) rfl rfl rfl ?_
  refine At.opsNil ?_
  refine At.norm (hk_7 ?_)
  refine At.condP rfl (fun c16 => ?_) (fun c16 => ?_)
  · refine At.skip ?_
    refine At.norm (hk_6 ?_)
    refine At.seq fun K8 hk_8 => ?_
    refine At.block ?_
    refine At.seq fun K9 hk_9 => ?_
    refine At.region ?_
    refine op_move (nxlf rfl) rfl rfl ?_
    refine op_move (nxlf rfl) rfl rfl ?_
    refine op_callA (nxla rfl) (.cons rfl (.cons rfl .nil)) (KTwin_f h 200 200 rfl (by decide)) Tryd.func8 rfl rfl (by simp) rfl ?_
    rintro v21 L21 ⟨M21, p21, c21, rfl, rfl, r21⟩
    change At _ _ _ [M21, NL, NI, NB, NJ, R] _
    rw [hx] at r21 ⊢; have s21 := r21.rsl
    refine At.perm sel5 ?_
    refine At.perm sel5 ?_
    refine At.perm sel5 ?_
    refine At.perm sel3 ?_
    refine At.perm sel5 ?_
    refine At.perm sel5 ?_
    refine op_call (nxl rfl) (.cons rfl (.cons rfl .nil)) (LoanBytes_f hL s21 (by omega) (by omega)) (F := [M21, NB, NJ, R]) Tryd.func12 rfl rfl (.refl _) (by simp) rfl ?_
    rintro v22 L22 ⟨NL, NI, p22, c22, rfl, rfl, hL, le22, s22⟩
    change At _ _ _ [NL, NI, M21, NB, NJ, R] _
    skip
    refine op_callA (nxla rfl) (.cons rfl .nil) (FText_f s22 (by omega)) Tryd.func9 rfl rfl (by simp) rfl ?_
    rintro v23 L23 ⟨rfl, rfl⟩
    change At _ _ _ [NL, NI, M21, NB, NJ, R] _
    refine op_assign (nxlf rfl) rfl rfl ?_
    refine At.opsNil ?_
    refine At.norm (hk_9 ?_)
    refine At.seq fun K10 hk_10 => ?_
    refine At.region ?_
    refine op_move (nxlf rfl) rfl rfl ?_
    refine op_callA (nxla rfl) (.cons rfl .nil) (hF1) Tryd.func11 rfl rfl (by simp) rfl ?_
    rintro v26 L26 ⟨M26, p26, c26, rfl, rfl, r26⟩
    change At _ _ _ [M26, NL, NI, M21, NB, NJ, R] _
    refine op_move (nxlf rfl) rfl rfl ?_
    refine op_extract (nxlf rfl) rfl rfl rfl ?_
    refine op_extract (nxlf rfl) rfl rfl rfl ?_
    refine op_alloc (nxla rfl) ze30 rfl (fun N10 b10 B10 => ?_)
    change Blk N10 b10 _ [.int .i64 0, .int .i64 0] at B10
    refine op_assign (nxlf rfl) rfl rfl ?_
    refine op_store (nxl rfl) sz30 rfl rfl rfl rfl rfl B10 (by simp) sel0 (fun N10 B10 => ?_)
    simp only [setL, List.set] at B10
    refine At.opsNil ?_
    refine At.norm (hk_10 ?_)
    refine At.seq fun K11 hk_11 => ?_
    refine At.region ?_
    refine op_move (nxlf rfl) rfl rfl ?_
    refine op_move (nxlf rfl) rfl rfl ?_
    refine At.perm sel7 ?_
    refine At.perm sel5 ?_
    refine At.perm sel5 ?_
    refine At.perm sel5 ?_
    refine At.perm sel4 ?_
    refine At.perm sel5 ?_
    refine At.perm sel7 ?_
    refine At.perm sel7 ?_
    refine op_call (nxl rfl) (.cons rfl (.cons rfl .nil)) (BookBytes_f hB r26 (by omega)) (F := [N10, NL, NI, M21, R]) Tryd.func13 rfl rfl (.refl _) (by simp) rfl ?_
    rintro v31 L31 ⟨rfl, NB, NJ, rfl, hB⟩
    change At _ _ _ [NB, NJ, N10, NL, NI, M21, R] _
    skip
    refine At.opsNil ?_
    refine At.norm (hk_11 ?_)
    refine At.seq fun K12 hk_12 => ?_
    refine At.region ?_
    refine op_move (nxlf rfl) rfl rfl ?_
    refine op_callA (nxla rfl) (.cons rfl .nil) (hF2) Tryd.func11 rfl rfl (by simp) rfl ?_
    rintro v34 L34 ⟨M34, p34, c34, rfl, rfl, r34⟩
    change At _ _ _ [M34, NB, NJ, N10, NL, NI, M21, R] _
    refine op_move (nxlf rfl) rfl rfl ?_
    refine op_extract (nxlf rfl) rfl rfl rfl ?_
    refine op_extract (nxlf rfl) rfl rfl rfl ?_
    refine op_assign (nxlf rfl) rfl rfl ?_
    refine At.opsNil ?_
    refine At.norm (hk_12 ?_)
    refine At.region ?_
    refine op_move (nxlf rfl) rfl rfl ?_
    refine op_move (nxlf rfl) rfl rfl ?_
    refine At.perm sel7 ?_
    refine At.perm sel7 ?_
    refine At.perm sel7 ?_
    refine At.perm sel7 ?_
    refine At.perm sel7 ?_
    refine At.perm sel5 ?_
    refine At.perm sel7 ?_
    refine At.perm sel7 ?_
    refine op_call (nxl rfl) (.cons rfl (.cons rfl .nil)) (BookBytes_f hB r34 (by omega)) (F := [N10, NL, NI, M21, R]) Tryd.func13 rfl rfl (.refl _) (by simp) rfl ?_
    rintro v39 L39 ⟨rfl, NB, NJ, rfl, hB⟩
    change At _ _ _ [NB, NJ, N10, NL, NI, M21, R] _
    skip
    refine At.opsNil ?_
    refine At.inNorm ?_
    refine At.norm (hk_8 ?_)
    refine At.region ?_
    refine op_move (nxlf rfl) rfl rfl ?_
    refine op_addI (nxlf rfl) rfl rfl (by omega) (by omega) rfl ?_
    refine op_assign (nxlf rfl) rfl rfl ?_
    refine At.opsNil ?_
    refine At.norm ?_
    refine At.sub (L' := [NB, NJ, NL, NI, R]) (.cons_cons _ (.cons_cons _ (.cons _ (.cons_cons _ (.cons_cons _ (.cons _ (.cons_cons _ (.slnil)))))))) ?_
    refine At.perm sel4 ?_
    refine At.perm sel2 ?_
    refine At.perm sel2 ?_
    refine At.perm sel4 ?_
    refine At.perm sel4 ?_
    refine At.back ?_ (.refl _) ⟨i + 1, NL, NI, NB, NJ, rfl, rfl, rfl, by omega, hL, hB⟩ ?_
    · exact .cons (by first | exact lkI rfl (by omega) | rfl) (.cons (by first | exact lkI rfl (by omega) | rfl) (.cons (by first | exact lkI rfl (by omega) | rfl) (.cons (by first | exact lkI rfl (by omega) | rfl) (.cons (by first | exact lkI rfl (by omega) | rfl) .nil))))
    · omega
  · refine At.exit (At.thenExit (At.thenExit (At.inHit ?_)))
    refine At.norm (hk_4 ?_)
    refine At.seq fun K13 hk_13 => ?_
    refine At.region ?_
    refine op_move (nxlf rfl) rfl rfl ?_
    refine op_call (nxl rfl) (.cons rfl .nil) (LoanBack_f hL) (F := [NB, NJ, R]) Tryd.func14 rfl rfl (.refl _) (by simp) rfl ?_
    rintro v41 L41 ⟨rfl, rfl⟩
    change At _ _ _ [NB, NJ, R] _
    refine op_move (nxlf rfl) rfl rfl ?_
    refine op_move (nxgf rfl rfl rfl rfl) rfl rfl ?_
    refine op_call (nxg rfl rfl rfl rfl) (.cons rfl .nil) (BookClose_f hB) (F := [R]) Tryd.func15 rfl rfl (.refl _) (by simp) rfl ?_
    rintro v44 L44 ⟨rfl, rfl⟩
    change At _ _ _ [R] _
    refine op_pickT (nxlf rfl) rfl rfl rfl ?_
    refine op_move (nxlf rfl) rfl rfl ?_
    refine op_callA (nxga rfl rfl rfl rfl) .nil (HWakes_f) Tryd.func10 rfl rfl (by simp) rfl ?_
    rintro v47 L47 ⟨rfl, rfl⟩
    change At _ _ _ [R] _
    refine op_pickT (nxlf rfl) rfl rfl rfl ?_
    refine op_assign (nxlf rfl) rfl rfl ?_
    refine At.opsNil ?_
    refine At.norm (hk_13 ?_)
    refine At.ret (?_)
    refine At.ret1 (L1 := []) rfl (.tmp rfl .nil) (.refl _) (.refl _) ?_
    exact ⟨rfl, rfl⟩
end Go.Proofs.YtlkjfbfenpkmhaaDoor
