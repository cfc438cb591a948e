/- quarrylaw18.CodeOwn answers true. Condition: the tables are laid. -/
import Derived.Test.YtdplcfineaikjaaDoorO3
import Derived.Test.YtdplcfineaikjaaDoorO4
import Derived.Test.YtdplcfineaikjaaDoorCU3
namespace Go.Proofs.YtdplcfineaikjaaDoor
set_option linter.unusedVariables false
set_option linter.unusedSimpArgs false
open Go Go.RowKit
theorem setv_len {xs : List Value} {i : Nat} {v : Value} : (setL xs i [v]).length = xs.length := by simp [setL]
set_option maxRecDepth 100000 in
set_option maxHeartbeats 4000000 in
theorem CodeOwn_f {N M : Heaplet} {ao : Option Addr} {n cap : Nat} {l : List UInt8} (hT : TabH M) (hP : PowH M) (f : Int) (h : RSl N 1 ao n cap (u8s l)) : Fn Tryd.prog 6 #[.int .i64 f, .slice ao n cap] [] [N, M] (fun v L => v = .bool true ∧ L = []) := by
  obtain ⟨x, hx⟩ : ∃ x, l.take 3000 = x := ⟨_, rfl⟩
  have hl : x.length ≤ 3000 := by rw [← hx, List.length_take]; omega
  have hjl := jumps_len x
  refine Fn.enter (vs := [.int .i64 f, .slice ao n cap]) Tryd.func6 rfl rfl rfl ?_
  intro E R hR
  have h := h.le (hR N (by simp))
  have hT := hT.le (hR M (by simp))
  have hP := hP.le (hR M (by simp))
  change At _ _ E [R] _
  refine At.seq fun K1 hk_1 => ?_
  refine At.region ?_
  refine op_assign (nxlf rfl) rfl rfl ?_
  refine At.opsNil ?_
  refine At.norm (hk_1 ?_)
  refine At.seq fun K2 hk_2 => ?_
  refine At.region ?_
  refine op_build (out := [.slice none 0 0, .slice none 0 0]) (nxlf rfl) ze45 pl45 .nil rfl rfl ?_
  refine op_box (nxla rfl) rfl rfl rfl (fun N11 b11 B11 => ?_)
  change Blk N11 b11 _ [.slice none 0 0, .slice none 0 0] at B11
  have hL := Loan.start B11
  refine op_assign (nxlf rfl) rfl rfl ?_
  refine At.opsNil ?_
  refine At.norm (hk_2 ?_)
  refine At.seq fun K3 hk_3 => ?_
  refine At.region ?_
  refine op_move (nxlf rfl) rfl rfl ?_
  refine op_move (nxlf rfl) rfl rfl ?_
  refine op_callA (nxla rfl) (.cons rfl .nil) (few_f h) Tryd.func8 rfl rfl (by simp) rfl ?_
  rintro v14 L14 ⟨N14, a14, c14, rfl, rfl, r14⟩
  change At _ _ _ [N14, N11, R] _
  rw [hx] at r14 ⊢; have s14 := r14.rsl
  refine At.empty ?_
  refine At.perm sel3 ?_
  refine At.perm sel2 ?_
  refine At.perm sel2 ?_
  refine At.perm sel3 ?_
  refine op_call (nxl rfl) (.cons rfl (.cons rfl .nil)) (LoanBytes_f hL s14 (by omega) (by omega)) (F := [N14, R]) Tryd.func22 rfl rfl (.refl _) (by simp) rfl ?_
  rintro v15 L15 ⟨NL, NI, p15, c15, rfl, rfl, hL, le15, s15⟩
  change At _ _ _ [NL, NI, N14, R] _
  skip
  refine op_callA (nxla rfl) (.cons rfl .nil) (FJumps_f s15 (by omega)) Tryd.func9 rfl rfl (by simp) rfl ?_
  rintro v16 L16 ⟨N16, a16, c16, rfl, rfl, r16⟩
  change At _ _ _ [N16, NL, NI, N14, R] _
  refine op_assign (nxlf rfl) rfl rfl ?_
  refine At.opsNil ?_
  refine At.norm (hk_3 ?_)
  refine At.seq fun K4 hk_4 => ?_
  refine At.region ?_
  refine op_move (nxlf rfl) rfl rfl ?_
  refine op_move (nxlf rfl) rfl rfl ?_
  refine op_callA (nxla rfl) (.cons rfl .nil) (few_f h) Tryd.func8 rfl rfl (by simp) rfl ?_
  rintro v19 L19 ⟨N19, a19, c19, rfl, rfl, r19⟩
  change At _ _ _ [N19, N16, NL, NI, N14, R] _
  rw [hx] at r19 ⊢; have s19 := r19.rsl
  refine At.perm sel5 ?_
  refine At.perm sel5 ?_
  refine At.perm sel3 ?_
  refine At.perm sel3 ?_
  refine At.perm sel5 ?_
  refine At.perm sel5 ?_
  refine op_call (nxl rfl) (.cons rfl (.cons rfl .nil)) (LoanBytes_f hL s19 (by omega) (by omega)) (F := [N19, N16, N14, R]) Tryd.func22 rfl rfl (.refl _) (by simp) rfl ?_
  rintro v20 L20 ⟨NL, NI, p20, c20, rfl, rfl, hL, le20, s20⟩
  change At _ _ _ [NL, NI, N19, N16, N14, R] _
  skip
  refine op_callA (nxla rfl) (.cons rfl .nil) (FJumps_f s20 (by omega)) Tryd.func9 rfl rfl (by simp) rfl ?_
  rintro v21 L21 ⟨N21, a21, c21, rfl, rfl, r21⟩
  change At _ _ _ [N21, NL, NI, N19, N16, N14, R] _
  have s21 := r21.rsl
  refine op_assign (nxlf rfl) rfl rfl ?_
  refine At.opsNil ?_
  refine At.norm (hk_4 ?_)
  refine At.seq fun K5 hk_5 => ?_
  refine At.region ?_
  refine op_move (nxlf rfl) rfl rfl ?_
  refine op_move (nxlf rfl) rfl rfl ?_
  refine op_move (nxlf rfl) rfl rfl ?_
  refine op_callA (nxla rfl) (.cons rfl .nil) (few_f h) Tryd.func8 rfl rfl (by simp) rfl ?_
  rintro v25 L25 ⟨N25, a25, c25, rfl, rfl, r25⟩
  change At _ _ _ [N25, N21, NL, NI, N19, N16, N14, R] _
  rw [hx] at r25 ⊢; have s25 := r25.rsl
  refine At.perm sel7 ?_
  refine At.perm sel7 ?_
  refine At.perm sel7 ?_
  refine At.perm sel7 ?_
  refine At.perm sel5 ?_
  refine At.perm sel5 ?_
  refine At.perm sel7 ?_
  refine At.perm sel7 ?_
  refine op_call (nxl rfl) (.cons rfl (.cons rfl .nil)) (LoanBytes_f hL s25 (by omega) (by omega)) (F := [N25, N21, N19, N16, N14, R]) Tryd.func22 rfl rfl (.refl _) (by simp) rfl ?_
  rintro v26 L26 ⟨NL, NI, p26, c26, rfl, rfl, hL, le26, s26⟩
  change At _ _ _ [NL, NI, N25, N21, N19, N16, N14, R] _
  skip
  refine op_callA (nxla rfl) (.cons rfl (.cons rfl .nil)) (FList_f hT hP f s26 (by omega)) Tryd.func14 rfl rfl (by simp) rfl ?_
  rintro v27 L27 ⟨N27, a27, c27, rfl, rfl, s27⟩
  change At _ _ _ [N27, NL, NI, N25, N21, N19, N16, N14, R] _
  refine At.opsNil ?_
  refine At.norm (hk_5 ?_)
  refine At.seq fun K6 hk_6 => ?_
  refine At.region ?_
  refine op_move (nxlf rfl) rfl rfl ?_
  refine op_move (nxlf rfl) rfl rfl ?_
  refine op_callA (nxla rfl) (.cons rfl .nil) (few_f h) Tryd.func8 rfl rfl (by simp) rfl ?_
  rintro v30 L30 ⟨N30, a30, c30, rfl, rfl, r30⟩
  change At _ _ _ [N30, N27, NL, NI, N25, N21, N19, N16, N14, R] _
  rw [hx] at r30 ⊢; have s30 := r30.rsl
  refine At.perm sel9 ?_
  refine At.perm sel9 ?_
  refine At.perm sel9 ?_
  refine At.perm sel9 ?_
  refine At.perm sel9 ?_
  refine At.perm sel9 ?_
  refine At.perm sel7 ?_
  refine At.perm sel7 ?_
  refine At.perm sel9 ?_
  refine At.perm sel9 ?_
  refine op_call (nxl rfl) (.cons rfl (.cons rfl .nil)) (LoanBytes_f hL s30 (by omega) (by omega)) (F := [N30, N27, N25, N21, N19, N16, N14, R]) Tryd.func22 rfl rfl (.refl _) (by simp) rfl ?_
  rintro v31 L31 ⟨NL, NI, p31, c31, rfl, rfl, hL, le31, s31⟩
  change At _ _ _ [NL, NI, N30, N27, N25, N21, N19, N16, N14, R] _
  skip
  refine op_buildA (out := [_, .int .u64 0, .int .u64 0, .int .u64 0]) (nxlf rfl) ze25 ae25 (.cons rfl .nil) rfl rfl ?_
  refine op_callA (nxla rfl) (.cons rfl (.cons rfl .nil)) (FJump_f s31 (by omega) 1 0 0 0) Tryd.func11 rfl rfl (by simp) rfl ?_
  rintro v33 L33 ⟨rfl, rfl⟩
  change At _ _ _ [NL, NI, N30, N27, N25, N21, N19, N16, N14, R] _
  refine At.opsNil ?_
  refine At.norm (hk_6 ?_)
  refine At.seq fun K7 hk_7 => ?_
  refine At.seq fun K8 hk_8 => ?_
  refine At.region ?_
  refine op_assign (nxlf rfl) rfl rfl ?_
  refine At.opsNil ?_
  refine At.norm (hk_8 ?_)
  refine At.block ?_
  refine At.sub (L' := [NL, NI, N21, N16, R]) (.cons_cons _ (.cons_cons _ (.cons _ (.cons _ (.cons _ (.cons_cons _ (.cons _ (.cons_cons _ (.cons _ (.cons_cons _ (.slnil))))))))))) ?_
  refine At.perm sel4 ?_
  refine At.perm sel2 ?_
  refine At.perm sel2 ?_
  refine At.perm sel3 ?_
  refine At.perm sel4 ?_
  refine At.loop (fun fr_ hp_ ms_ => ∃ (i : Nat) (xs : List Value) (N16 : Heaplet), fr_ = [(5, .pointer (some ⟨b11, 0, none⟩)), (6, .slice a16 (jumpsOf x).length c16), (7, .slice a21 (jumpsOf x).length c21), (8, .int .i64 (i : Int))] ∧ hp_ = [N16, N21, NL, NI, R] ∧ (jumpsOf x).length - i = ms_ ∧ (i ≤ (jumpsOf x).length) ∧ (Row N16 3 1 a16 (jumpsOf x).length c16 xs)) ?_ (.refl _) ⟨0, _, N16, rfl, rfl, rfl, Nat.zero_le _, r16⟩ ?_
  · exact .cons (by first | exact lkI rfl (by omega) | rfl) (.cons (by first | exact lkI rfl (by omega) | rfl) (.cons (by first | exact lkI rfl (by omega) | rfl) (.cons (by first | exact lkI rfl (by omega) | rfl) .nil)))
  rintro _ _ _ ⟨i, xs, N16, rfl, rfl, rfl, hi, r16⟩
  have s16 := r16.rsl
  have hxl := s16.len
  refine At.seq fun K9 hk_9 => ?_
  refine At.seq fun K10 hk_10 => ?_
  refine At.region ?_
  refine op_move (nxlf rfl) rfl rfl ?_
  refine op_move (nxlf rfl) rfl rfl ?_
  refine op_lenS (nxlf rfl) se27 rfl rfl ?_
  refine op_lss (nxlf rfl) rfl rfl rfl ?_
  refine At.opsNil ?_
  refine At.norm (hk_10 ?_)
  refine At.condP rfl (fun c37 => ?_) (fun c37 => ?_)
  · refine At.skip ?_
    refine At.norm (hk_9 ?_)
    refine At.seq fun K11 hk_11 => ?_
    refine At.block ?_
    refine At.region ?_
    refine op_move (nxlf rfl) rfl rfl ?_
    refine op_move (nxlf rfl) rfl rfl ?_
    refine op_idx1 (nxlf rfl) se27 rfl rfl s16 (show _ = (((i : Nat)) : Int) from by omega) (by omega) rfl ?_
    refine op_storeE (nxl rfl) sz3 rfl rfl rfl rfl rfl r16 (by (simp; omega)) (by simp) sel0 (fun N16 r16 => ?_)
    skip
    have s16 := r16.rsl
    refine At.opsNil ?_
    refine At.inNorm ?_
    refine At.norm (hk_11 ?_)
    refine At.region ?_
    refine op_move (nxlf rfl) rfl rfl ?_
    refine op_addI (nxlf rfl) rfl rfl (by omega) (by omega) rfl ?_
    refine op_assign (nxlf rfl) rfl rfl ?_
    refine At.opsNil ?_
    refine At.norm ?_
    refine At.back ?_ (.refl _) ⟨i + 1, _, N16, rfl, rfl, rfl, by omega, r16⟩ ?_
    · exact .cons (by first | exact lkI rfl (by omega) | rfl) (.cons (by first | exact lkI rfl (by omega) | rfl) (.cons (by first | exact lkI rfl (by omega) | rfl) (.cons (by first | exact lkI rfl (by omega) | rfl) .nil)))
    · omega
  · refine At.exit (At.thenExit (At.thenExit (At.inHit ?_)))
    refine At.norm (hk_7 ?_)
    refine At.seq fun K12 hk_12 => ?_
    refine At.seq fun K13 hk_13 => ?_
    refine At.region ?_
    refine op_assign (nxlf rfl) rfl rfl ?_
    refine At.opsNil ?_
    refine At.norm (hk_13 ?_)
    refine At.block ?_
    refine At.sub (L' := [N21, NL, NI, R]) (.cons _ (.cons_cons _ (.cons_cons _ (.cons_cons _ (.cons_cons _ (.slnil)))))) ?_
    refine At.loop (fun fr_ hp_ ms_ => ∃ (i : Nat), fr_ = [(5, .pointer (some ⟨b11, 0, none⟩)), (7, .slice a21 (jumpsOf x).length c21), (9, .int .i64 (i : Int))] ∧ hp_ = [N21, NL, NI, R] ∧ (jumpsOf x).length - i = ms_ ∧ (i ≤ (jumpsOf x).length)) ?_ (.refl _) ⟨0, rfl, rfl, rfl, Nat.zero_le _⟩ ?_
    · exact .cons (by first | exact lkI rfl (by omega) | rfl) (.cons (by first | exact lkI rfl (by omega) | rfl) (.cons (by first | exact lkI rfl (by omega) | rfl) .nil))
    rintro _ _ _ ⟨i, rfl, rfl, rfl, hi⟩
    refine At.seq fun K14 hk_14 => ?_
    refine At.seq fun K15 hk_15 => ?_
    refine At.region ?_
    refine op_move (nxlf rfl) rfl rfl ?_
    refine op_move (nxlf rfl) rfl rfl ?_
    refine op_lenS (nxlf rfl) se27 rfl rfl ?_
    refine op_lss (nxlf rfl) rfl rfl rfl ?_
    refine At.opsNil ?_
    refine At.norm (hk_15 ?_)
    refine At.condP rfl (fun c46 => ?_) (fun c46 => ?_)
    · refine At.skip ?_
      refine At.norm (hk_14 ?_)
      refine At.seq fun K16 hk_16 => ?_
      refine At.block ?_
      refine At.seq fun K17 hk_17 => ?_
      refine At.region ?_
      refine op_move (nxlf rfl) rfl rfl ?_
      refine op_move (nxlf rfl) rfl rfl ?_
      refine op_idx1 (nxlf rfl) se27 rfl rfl s21 (show _ = (((i : Nat)) : Int) from by omega) (by omega) rfl ?_
      refine op_loadE (nxlf rfl) sc3 rfl s21 (by first | exact get8 (by omega) | exact get64 (by omega) | exact get32 (by omega) | exact ints_get (by omega)) (by first | exact mem0 | exact mem1 | exact mem2 | exact mem3 | exact mem4 | exact mem5 | exact mem6 | exact mem7 | exact mem8 | exact mem9) rfl ?_
      refine op_lss (nxlf rfl) rfl rfl rfl ?_
      refine At.opsNil ?_
      refine At.norm (hk_17 ?_)
      refine At.condP rfl (fun c53 => ?_) (fun c53 => ?_)
      · exfalso; omega
      · refine At.skip ?_
        refine At.inNorm ?_
        refine At.norm (hk_16 ?_)
        refine At.region ?_
        refine op_move (nxlf rfl) rfl rfl ?_
        refine op_addI (nxlf rfl) rfl rfl (by omega) (by omega) rfl ?_
        refine op_assign (nxlf rfl) rfl rfl ?_
        refine At.opsNil ?_
        refine At.norm ?_
        refine At.back ?_ (.refl _) ⟨i + 1, rfl, rfl, rfl, by omega⟩ ?_
        · exact .cons (by first | exact lkI rfl (by omega) | rfl) (.cons (by first | exact lkI rfl (by omega) | rfl) (.cons (by first | exact lkI rfl (by omega) | rfl) .nil))
        · omega
    · refine At.exit (At.thenExit (At.thenExit (At.inHit ?_)))
      refine At.norm (hk_12 ?_)
      refine At.seq fun K18 hk_18 => ?_
      refine At.region ?_
      refine op_move (nxlf rfl) rfl rfl ?_
      refine At.perm sel3 ?_
      refine At.perm sel1 ?_
      refine At.perm sel3 ?_
      refine At.perm sel3 ?_
      refine op_call (nxl rfl) (.cons rfl .nil) (LoanBack_f hL) (F := [N21, R]) Tryd.func23 rfl rfl (.refl _) (by simp) rfl ?_
      rintro v55 L55 ⟨rfl, rfl⟩
      change At _ _ _ [N21, R] _
      refine op_move (nxlf rfl) rfl rfl ?_
      refine op_callA (nxga rfl rfl rfl rfl) .nil (Cwakes_f hT) Tryd.func13 rfl rfl (by simp) rfl ?_
      rintro v57 L57 ⟨rfl, rfl⟩
      change At _ _ _ [N21, R] _
      refine op_pickT (nxlf rfl) rfl rfl rfl ?_
      refine op_assign (nxlf rfl) rfl rfl ?_
      refine At.opsNil ?_
      refine At.norm (hk_18 ?_)
      refine At.ret (?_)
      refine At.sub (L' := [R]) (.cons _ (.cons_cons _ (.slnil))) ?_
      refine At.ret1 (L1 := []) rfl (.tmp rfl .nil) (.refl _) (.refl _) ?_
      exact ⟨rfl, rfl⟩
end Go.Proofs.YtdplcfineaikjaaDoor
