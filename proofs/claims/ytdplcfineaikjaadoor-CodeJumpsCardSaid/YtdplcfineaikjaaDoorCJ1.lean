/- quarrylaw18.CodeJumps answers true. Condition: the table of white space is laid. -/
import Derived.Test.YtdplcfineaikjaaDoorCU3
import Derived.Test.YtdplcfineaikjaaDoorA1
namespace Go.Proofs.YtdplcfineaikjaaDoor
set_option linter.unusedVariables false
set_option linter.unusedSimpArgs false
open Go Go.RowKit
set_option maxRecDepth 100000 in
set_option maxHeartbeats 2000000 in
theorem CodeJumps_f {N M : Heaplet} {ao : Option Addr} {n cap : Nat} {l : List UInt8} (hT : TabH N) (h : RSl M 1 ao n cap (u8s l)) (wa wb wc wd : UInt64) : Fn Tryd.prog 3 #[.slice ao n cap, w4 wa wb wc wd] [] [N, M] (fun v L => v = .bool true ∧ L = []) := by
  obtain ⟨l', hl'⟩ : ∃ l', l.take 3000 = l' := ⟨_, rfl⟩
  have hll : l'.length ≤ 3000 := by rw [← hl', List.length_take]; omega
  have hjl := jumps_len l'
  refine Fn.enter (vs := [.slice ao n cap, w4 wa wb wc wd]) Tryd.func3 rfl rfl rfl ?_
  intro E R hR
  have hT := hT.le (hR N (by simp))
  have h := h.le (hR M (by simp))
  change At _ _ E [R] _
  refine At.seq fun K1 hk_1 => ?_
  refine At.region ?_
  refine op_box (nxla rfl) rfl rfl rfl (fun N3 b3 B3 => ?_)
  change Blk N3 b3 _ [.int .u64 (wa.toNat : Int), .int .u64 (wb.toNat : Int), .int .u64 (wc.toNat : Int), .int .u64 (wd.toNat : Int)] at B3
  refine op_assign (nxlf rfl) rfl rfl ?_
  refine At.opsNil ?_
  refine At.norm (hk_1 ?_)
  refine At.seq fun K2 hk_2 => ?_
  refine At.region ?_
  refine op_move (nxlf rfl) rfl rfl ?_
  refine op_callA (nxla rfl) (.cons rfl .nil) (few_f h) Tryd.func8 rfl rfl (by simp) rfl ?_
  rintro v10 L10 ⟨N10, a10, c10, rfl, rfl, r10⟩
  change At _ _ _ [N10, N3, R] _
  rw [hl'] at r10 ⊢; have s10 := r10.rsl
  refine op_assign (nxlf rfl) rfl rfl ?_
  refine At.opsNil ?_
  refine At.norm (hk_2 ?_)
  refine At.seq fun K3 hk_3 => ?_
  refine At.region ?_
  refine op_move (nxlf rfl) rfl rfl ?_
  refine op_callA (nxla rfl) (.cons rfl .nil) (few_all s10 hll) Tryd.func8 rfl rfl (by simp) rfl ?_
  rintro v12 L12 ⟨N12, a12, c12, rfl, rfl, r12⟩
  change At _ _ _ [N12, N10, N3, R] _
  have s12 := r12.rsl
  refine op_callA (nxla rfl) (.cons rfl .nil) (FJumps_f s12 (by omega)) Tryd.func9 rfl rfl (by simp) rfl ?_
  rintro v13 L13 ⟨N13, a13, c13, rfl, rfl, r13⟩
  change At _ _ _ [N13, N12, N10, N3, R] _
  have s13 := r13.rsl
  refine op_assign (nxlf rfl) rfl rfl ?_
  refine At.opsNil ?_
  refine At.norm (hk_3 ?_)
  refine At.seq fun K4 hk_4 => ?_
  refine At.region ?_
  refine op_move (nxlf rfl) rfl rfl ?_
  refine op_callA (nxla rfl) (.cons rfl .nil) (rJumps_f s10 (by omega)) Tryd.func10 rfl rfl (by simp) rfl ?_
  rintro v15 L15 ⟨N15, a15, c15, rfl, rfl, r15⟩
  change At _ _ _ [N15, N13, N12, N10, N3, R] _
  have s15 := r15.rsl
  refine op_assign (nxlf rfl) rfl rfl ?_
  refine At.opsNil ?_
  refine At.norm (hk_4 ?_)
  refine At.seq fun K5 hk_5 => ?_
  refine At.seq fun K6 hk_6 => ?_
  refine At.drawnS [N15, N13, N12, N10, N3, R] [12] [10] [0,1,2,3,4,5,6,8,10,11,7,9,12,13,14] (by kernel_rfl) (by kernel_rfl) (.refl _) ?_
  refine op_move (nxsf rfl rfl rfl) rfl rfl ?_
  refine op_lenS (nxsf rfl rfl rfl) se27 rfl rfl ?_
  refine op_move (nxsf rfl rfl rfl) rfl rfl ?_
  refine op_lenS (nxsf rfl rfl rfl) se27 rfl rfl ?_
  refine op_neq (nxsf rfl rfl rfl) rfl rfl rfl ?_
  refine op_move (nxsf rfl rfl rfl) rfl rfl ?_
  refine At.partP (d := 21) rfl (fun g21 => ?_) (fun g21 => ?_)
  · exact absurd rfl g21
  · refine op_move (nxsgf rfl rfl rfl rfl rfl rfl) rfl rfl ?_
    refine op_loadAggB (ds := [_, _, _, _]) (nxsgf rfl rfl rfl rfl rfl rfl) ag25 rfl B3 rfl rfl mem4 rfl ?_
    refine op_move (nxsgf rfl rfl rfl rfl rfl rfl) rfl rfl ?_
    refine op_loadAggB (ds := [_, _, _, _]) (nxsgf rfl rfl rfl rfl rfl rfl) ag25 rfl B3 rfl rfl mem4 rfl ?_
    refine op_callA (Nx.agree (nxsgm rfl rfl rfl rfl rfl rfl)) (.cons rfl .nil) (few_all s10 hll) Tryd.func8 rfl rfl (by simp) rfl ?_
    rintro v23 L23 ⟨N23, a23, c23, rfl, rfl, r23⟩
    change At _ _ _ [N23, N15, N13, N12, N10, N3, R] _
    have s23 := r23.rsl
    refine At.moreS (Lst := [N15, N13, N12, N10, N3, R]) (Lst' := [N23, N15, N13, N12, N10, N3, R]) (.cons _ (.refl _)) (.refl _) ?_
    refine op_callA (Nx.agree (nxsgm rfl rfl rfl rfl rfl rfl)) (.cons rfl (.cons rfl .nil)) (FJump_f s23 (by omega) wa wb wc wd) Tryd.func11 rfl rfl (by simp) rfl ?_
    rintro v25 L25 ⟨rfl, rfl⟩
    change At _ _ _ [N23, N15, N13, N12, N10, N3, R] _
    refine At.moreS (Lst := [N23, N15, N13, N12, N10, N3, R]) (Lst' := [N23, N15, N13, N12, N10, N3, R]) (.refl _) (.refl _) ?_
    refine op_callA (Nx.agree (nxsgs rfl rfl rfl rfl rfl rfl rfl)) (.cons rfl (.cons rfl .nil)) (rJump_f s10 (by omega) wa wb wc wd) Tryd.func12 rfl rfl (by simp) rfl ?_
    rintro v28 L28 ⟨rfl, rfl⟩
    change At _ _ _ [N23, N15, N13, N12, N10, N3, R] _
    refine At.anyS (.refl _) ?_
    refine op_neB (nxsgf rfl rfl rfl rfl rfl rfl) Tryd.underlying4 rfl rfl rfl ?_
    rw [bne_self_eq_false]
    refine op_pickF (nxsf rfl rfl rfl) rfl rfl rfl ?_
    refine At.sNil ?_
    refine At.norm (hk_6 ?_)
    refine At.condF rfl ?_
    refine At.skip ?_
    refine At.norm (hk_5 ?_)
    refine At.seq fun K7 hk_7 => ?_
    refine At.seq fun K8 hk_8 => ?_
    refine At.region ?_
    refine op_assign (nxlf rfl) rfl rfl ?_
    refine At.opsNil ?_
    refine At.norm (hk_8 ?_)
    refine At.block ?_
    refine At.sub (L' := [N15, N13, N10, R]) (.cons _ (.cons_cons _ (.cons_cons _ (.cons _ (.cons_cons _ (.cons _ (.cons_cons _ (.slnil)))))))) ?_
    refine At.loop (fun fr_ hp_ ms_ => ∃ (i : Nat), fr_ = [(5, .slice a10 l'.length c10), (6, .slice a13 (jumpsOf l').length c13), (7, .slice a15 (jumpsOf l').length c15), (8, .int .i64 (i : Int))] ∧ hp_ = [N15, N13, N10, R] ∧ (jumpsOf l').length - i = ms_ ∧ (i ≤ (jumpsOf l').length)) ?_ (.refl _) ⟨0, rfl, rfl, rfl, Nat.zero_le _⟩ ?_
    · exact .cons (by first | exact lkI rfl (by omega) | rfl) (.cons (by first | exact lkI rfl (by omega) | rfl) (.cons (by first | exact lkI rfl (by omega) | rfl) (.cons (by first | exact lkI rfl (by omega) | rfl) .nil)))
    rintro _ _ _ ⟨i, rfl, rfl, rfl, hi⟩
    refine At.seq fun K9 hk_9 => ?_
    refine At.seq fun K10 hk_10 => ?_
    refine At.region ?_
    refine op_move (nxlf rfl) rfl rfl ?_
    refine op_move (nxlf rfl) rfl rfl ?_
    refine op_lenS (nxlf rfl) se27 rfl rfl ?_
    refine op_lss (nxlf rfl) rfl rfl rfl ?_
    refine At.opsNil ?_
    refine At.norm (hk_10 ?_)
    refine At.condP rfl (fun c34 => ?_) (fun c34 => ?_)
    · obtain ⟨x, hx⟩ : ∃ x, (jumpsOf l').getD i 0 = x := ⟨_, rfl⟩
      have hxm : x ∈ jumpsOf l' := by rw [← hx]; exact getD_mem (by omega)
      have hxl := (jumps_mem hxm).1
      have hxx : (UInt64.ofNat x).toNat = x := by rw [UInt64.toNat_ofNat']; omega
      have hjv : jumpV l' (small4 (UInt64.ofNat x) 0 0 0) = true := by
        have e : small4 (UInt64.ofNat x) 0 0 0 = (UInt64.ofNat x, true) := if_pos ⟨rfl, rfl, rfl⟩
        rw [e]
        exact decide_eq_true ⟨rfl, by rw [hxx]; exact hxm⟩
      refine At.skip ?_
      refine At.norm (hk_9 ?_)
      refine At.seq fun K11 hk_11 => ?_
      refine At.block ?_
      refine At.seq fun K12 hk_12 => ?_
      refine At.drawnS [N15, N13, N10, R] [18] [12,13] [0,1,2,3,4,5,6,7,8,9,10,12,13,14,15,16,17,11,18,19,20] (by kernel_rfl) (by kernel_rfl) (.refl _) ?_
      refine op_move (nxsf rfl rfl rfl) rfl rfl ?_
      refine op_move (nxsf rfl rfl rfl) rfl rfl ?_
      refine op_idx1 (nxsf rfl rfl rfl) se27 rfl rfl s13 (show _ = (((i : Nat)) : Int) from by omega) (by omega) rfl ?_
      refine op_loadE (nxsf rfl rfl rfl) sc3 rfl s13 (by first | exact get8 (by omega) | exact get64 (by omega) | exact get32 (by omega) | exact ints_get (by omega)) (by first | exact mem0 | exact mem1 | exact mem2 | exact mem3 | exact mem4 | exact mem5 | exact mem6 | exact mem7 | exact mem8 | exact mem9) rfl ?_
      refine op_move (nxsf rfl rfl rfl) rfl rfl ?_
      refine op_move (nxsf rfl rfl rfl) rfl rfl ?_
      refine op_idx1 (nxsf rfl rfl rfl) se27 rfl rfl s15 (show _ = (((i : Nat)) : Int) from by omega) (by omega) rfl ?_
      refine op_loadE (nxsf rfl rfl rfl) sc3 rfl s15 (by first | exact get8 (by omega) | exact get64 (by omega) | exact get32 (by omega) | exact ints_get (by omega)) (by first | exact mem0 | exact mem1 | exact mem2 | exact mem3 | exact mem4 | exact mem5 | exact mem6 | exact mem7 | exact mem8 | exact mem9) rfl ?_
      refine op_neq (nxsf rfl rfl rfl) rfl rfl rfl ?_
      refine op_move (nxsf rfl rfl rfl) rfl rfl ?_
      refine At.partP (d := 46) rfl (fun g46 => ?_) (fun g46 => ?_)
      · exact absurd rfl g46
      · refine op_move (nxsgf rfl rfl rfl rfl rfl rfl) rfl rfl ?_
        refine op_move (nxsgf rfl rfl rfl rfl rfl rfl) rfl rfl ?_
        refine op_move (nxsgf rfl rfl rfl rfl rfl rfl) rfl rfl ?_
        refine op_idx1 (nxsgf rfl rfl rfl rfl rfl rfl) se27 rfl rfl s13 (show _ = (((i : Nat)) : Int) from by omega) (by omega) rfl ?_
        refine op_loadE (nxsgf rfl rfl rfl rfl rfl rfl) sc3 rfl s13 (by first | exact get8 (by omega) | exact get64 (by omega) | exact get32 (by omega) | exact ints_get (by omega)) (by first | exact mem0 | exact mem1 | exact mem2 | exact mem3 | exact mem4 | exact mem5 | exact mem6 | exact mem7 | exact mem8 | exact mem9) rfl ?_
        rw [hx]
        refine op_conv64 (nxsgf rfl rfl rfl rfl rfl rfl) (und_some Tryd.underlying3) Tryd.underlying23 rfl (show _ = (((x : Nat)) : Int) from by omega) rfl ?_
        refine op_buildA (out := [_, .int .u64 0, .int .u64 0, .int .u64 0]) (nxsgf rfl rfl rfl rfl rfl rfl) ze25 ae25 (.cons rfl .nil) rfl rfl ?_
        refine op_callA (Nx.agree (nxsgm rfl rfl rfl rfl rfl rfl)) (.cons rfl .nil) (few_all s10 hll) Tryd.func8 rfl rfl (by simp) rfl ?_
        rintro v48 L48 ⟨N48, a48, c48, rfl, rfl, r48⟩
        change At _ _ _ [N48, N15, N13, N10, R] _
        have s48 := r48.rsl
        refine At.moreS (Lst := [N15, N13, N10, R]) (Lst' := [N48, N15, N13, N10, R]) (.cons _ (.refl _)) (.refl _) ?_
        refine op_callA (Nx.agree (nxsgs rfl rfl rfl rfl rfl rfl rfl)) (.cons rfl (.cons rfl .nil)) (FJump_f s48 (by omega) (UInt64.ofNat x) 0 0 0) Tryd.func11 rfl rfl (by simp) rfl ?_
        rintro v55 L55 ⟨rfl, rfl⟩
        change At _ _ _ [N48, N15, N13, N10, R] _
        rw [hjv]
        refine At.anyS (.refl _) ?_
        refine op_not (nxsgf rfl rfl rfl rfl rfl rfl) rfl rfl ?_
        refine op_pickF (nxsf rfl rfl rfl) rfl rfl rfl ?_
        refine At.sNil ?_
        refine At.norm (hk_12 ?_)
        refine At.condF rfl ?_
        refine At.skip ?_
        refine At.inNorm ?_
        refine At.norm (hk_11 ?_)
        refine At.region ?_
        refine op_move (nxlf rfl) rfl rfl ?_
        refine op_addI (nxlf rfl) rfl rfl (by omega) (by omega) rfl ?_
        refine op_assign (nxlf rfl) rfl rfl ?_
        refine At.opsNil ?_
        refine At.norm ?_
        refine At.sub (L' := [N15, N13, N10, R]) (.cons _ (.cons_cons _ (.cons_cons _ (.cons_cons _ (.cons_cons _ (.slnil)))))) ?_
        refine At.back ?_ (.refl _) ⟨i + 1, rfl, rfl, rfl, by omega⟩ ?_
        · exact .cons (by first | exact lkI rfl (by omega) | rfl) (.cons (by first | exact lkI rfl (by omega) | rfl) (.cons (by first | exact lkI rfl (by omega) | rfl) (.cons (by first | exact lkI rfl (by omega) | rfl) .nil)))
        · omega
    · refine At.exit (At.thenExit (At.thenExit (At.inHit ?_)))
      refine At.norm (hk_7 ?_)
      refine At.seq fun K13 hk_13 => ?_
      refine At.region ?_
      refine op_callA (nxla rfl) .nil (Cwakes_f hT) Tryd.func13 rfl rfl (by simp) rfl ?_
      rintro v58 L58 ⟨rfl, rfl⟩
      change At _ _ _ [N15, N13, N10, R] _
      refine op_assign (nxlf rfl) rfl rfl ?_
      refine At.opsNil ?_
      refine At.norm (hk_13 ?_)
      refine At.ret (?_)
      refine At.sub (L' := [R]) (.cons _ (.cons _ (.cons _ (.cons_cons _ (.slnil))))) ?_
      refine At.ret1 (L1 := []) rfl (.tmp rfl .nil) (.refl _) (.refl _) ?_
      exact ⟨rfl, rfl⟩
end Go.Proofs.YtdplcfineaikjaaDoor
