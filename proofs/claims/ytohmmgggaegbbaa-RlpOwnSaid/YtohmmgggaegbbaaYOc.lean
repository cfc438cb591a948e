/- quarrykeep.Book: lists of bytes are taken in, with copies. Condition: lists of at most 2^40 bytes. -/
import Derived.Test.YtohmmgggaegbbaaYOb
namespace Go.Proofs.Ytohmmgggaegbbaa
set_option linter.unusedVariables false
set_option linter.unusedSimpArgs false
open Go Go.RowKit
/-- The book's parts: its struct, its two lists, the copies; and what was taken in. -/
def BookO (b0 : Nat) (N0 NF NW NK NI : Heaplet) (xs : List (List UInt8)) : Prop :=
  ∃ e0 pf cf pw cw vf vw, ∃ q : Nat, Blk N0 b0 e0 [.slice pf xs.length cf, .slice pw xs.length cw, .slice none 0 0, .slice none 0 0, .int .i64 (q : Int)] ∧ Row NF 22 1 pf xs.length cf vf ∧ Row NW 22 1 pw xs.length cw vw ∧ Bag 5 NI vf xs ∧ Bags NK vw xs ∧ xs.length ≤ q ∧ q ≤ 2199023255552 ∧ ∀ (j : Nat) (x : List UInt8), xs[j]? = some x → x.length ≤ 1099511627776
theorem BookFull_f {b0 : Nat} {N0 : Heaplet} {e0 : TypeId} {v0 v1 v2 v3 : Value} {q : Nat} (B0 : Blk N0 b0 e0 [v0, v1, v2, v3, .int .i64 (q : Int)]) : Fn Try.prog 44 #[.pointer (some ⟨b0, 0, none⟩)] [N0] [] (fun v L => v = .bool (decide ((q : Int) > 200000)) ∧ L = [N0]) := by
  refine Fn.enter (vs := [.pointer (some ⟨b0, 0, none⟩)]) Try.func44 rfl rfl rfl ?_
  intro E R hR
  change At _ _ E [N0, R] _
  refine At.seq fun K1 hk_1 => ?_
  refine At.region ?_
  refine op_assign (nxlf rfl) rfl rfl ?_
  refine At.opsNil ?_
  refine At.norm (hk_1 ?_)
  refine At.seq fun K2 hk_2 => ?_
  refine At.region ?_
  refine op_move (nxlf rfl) rfl rfl ?_
  refine op_nilChk (nxlf rfl) rfl rfl ?_
  refine op_fieldAddr (nxlf rfl) fl60_4 rfl rfl ?_
  refine op_loadB (nxlf rfl) sc3 rfl B0 (by first | rfl) mem0 rfl ?_
  refine op_gtr (nxlf rfl) rfl rfl rfl ?_
  refine op_assign (nxlf rfl) rfl rfl ?_
  refine At.opsNil ?_
  refine At.norm (hk_2 ?_)
  refine At.ret (?_)
  refine At.ret1 (L1 := [N0]) rfl (.tmp rfl .nil) (.refl _) (.refl _) ?_
  exact ⟨rfl, rfl⟩
set_option maxRecDepth 100000 in
theorem BookBytes_o {b0 : Nat} {N0 NF NW NK NI M : Heaplet} {xs : List (List UInt8)} {ao : Option Addr} {n cap : Nat} {l : List UInt8} (h : BookO b0 N0 NF NW NK NI xs) (hr : Row M 5 1 ao n cap (u8s l)) (hn : n ≤ 1099511627776) :
    Fn Try.prog 27 #[.pointer (some ⟨b0, 0, none⟩), .slice ao n cap] [N0, NF, NW, NK, NI, M] [] (fun v L => v = .tuple #[] ∧ ∃ N0' NF' NW' NK' NI' xs', L = [N0', NF', NW', NK', NI'] ∧ BookO b0 N0' NF' NW' NK' NI' xs') := by
  obtain ⟨e0, pf, cf, pw, cw, vf, vw, q, B0, rF, rW, hI, hK, hq1, hq2, hb⟩ := h
  have hs := hr.rsl
  have hlen := hs.len8
  have hcap := hs.cap63
  have hcf := rF.rsl.cap63
  have hcw := rW.rsl.cap63
  subst hlen
  refine Fn.enter (vs := [.pointer (some ⟨b0, 0, none⟩), .slice ao l.length cap]) Try.func27 rfl rfl rfl ?_
  intro E R hR
  change At _ _ E [N0, NF, NW, NK, NI, M, R] _
  refine At.seq fun K1 hk_1 => ?_
  refine At.seq fun K2 hk_2 => ?_
  refine At.region ?_
  refine op_move (nxlf rfl) rfl rfl ?_
  refine op_call (nxl rfl) (.cons rfl .nil) (BookFull_f B0) (F := [NF, NW, NK, NI, M, R]) Try.func44 rfl rfl (.refl _) (by simp) rfl ?_
  rintro v5 L5 ⟨rfl, rfl⟩
  change At _ _ _ [N0, NF, NW, NK, NI, M, R] _
  skip
  refine At.opsNil ?_
  refine At.norm (hk_2 ?_)
  refine At.condP rfl (fun c5 => ?_) (fun c5 => ?_)
  · refine At.ret (At.thenRet (?_))
    refine At.sub (L' := [N0, NF, NW, NK, NI, R]) (.cons_cons _ (.cons_cons _ (.cons_cons _ (.cons_cons _ (.cons_cons _ (.cons _ (.cons_cons _ (.slnil)))))))) ?_
    refine At.retN (L1 := [N0, NF, NW, NK, NI]) rfl .nil rfl (.refl _) (.refl _) ?_
    exact ⟨rfl, N0, NF, NW, NK, NI, xs, rfl, e0, pf, cf, pw, cw, vf, vw, q, B0, rF, rW, hI, hK, hq1, hq2, hb⟩
  · refine At.skip ?_
    refine At.norm (hk_1 ?_)
    refine At.seq fun K3 hk_3 => ?_
    refine At.region ?_
    refine op_move (nxlf rfl) rfl rfl ?_
    refine op_move (nxlf rfl) rfl rfl ?_
    refine op_nilChk (nxlf rfl) rfl rfl ?_
    refine op_fieldAddr (nxlf rfl) fl60_4 rfl rfl ?_
    refine op_loadB (nxlf rfl) sc3 rfl B0 (by first | rfl) mem0 rfl ?_
    refine op_move (nxlf rfl) rfl rfl ?_
    refine op_lenS (nxlf rfl) se22 rfl rfl ?_
    refine op_addI (nxlf rfl) rfl rfl (by omega) (by omega) rfl ?_
    refine op_addI (nxlf rfl) rfl rfl (by omega) (by omega) rfl ?_
    refine op_nilChk (nxlf rfl) rfl rfl ?_
    refine op_fieldAddr (nxlf rfl) fl60_4 rfl rfl ?_
    refine op_store (nxl rfl) sz3 rfl rfl rfl rfl rfl B0 (by simp) sel0 (fun N0 B0 => ?_)
    simp only [setL, List.set] at B0
    refine At.opsNil ?_
    refine At.norm (hk_3 ?_)
    refine At.seq fun K4 hk_4 => ?_
    refine At.region ?_
    refine op_move (nxlf rfl) rfl rfl ?_
    refine op_move (nxlf rfl) rfl rfl ?_
    refine op_nilChk (nxlf rfl) rfl rfl ?_
    refine op_fieldAddr (nxlf rfl) fl60_0 rfl rfl ?_
    refine op_loadB (nxlf rfl) sc55 rfl B0 (by first | rfl) mem0 rfl ?_
    refine op_move (nxlf rfl) rfl rfl ?_
    refine op_lit (nxla rfl) Try.underlying55 ze22 sz22 (.cons rfl .nil) rfl rfl (by simp [Value.cells]) rfl rfl rfl (fun N23 a23 r23 => ?_)
    simp only [flatV, List.flatMap_cons, List.flatMap_nil, Value.cells, List.append_nil, List.cons_append, List.nil_append] at r23
    have s23 := r23.rsl
    refine op_append (nxl rfl) Try.underlying55 Try.underlying55 te22 rfl rfl rF s23 (by first | exact mem0 | exact mem1 | exact mem2 | exact mem3 | exact mem4 | exact mem5 | exact mem6 | exact mem7 | exact mem8 | exact mem9) (by first | exact one_u8s _ | exact one_u64s _ | exact one_u32s _ | (intro u hu; simp at hu; subst hu; rfl)) (by omega) (by omega) sel2 rfl (fun N24 a24 p24 r24 => ?_)
    have s24 := r24.rsl
    refine op_nilChk (nxlf rfl) rfl rfl ?_
    refine op_fieldAddr (nxlf rfl) fl60_0 rfl rfl ?_
    refine op_store (nxl rfl) sz55 rfl rfl rfl rfl rfl B0 (by simp) sel2 (fun N0 B0 => ?_)
    simp only [setL, List.set] at B0
    refine At.opsNil ?_
    refine At.norm (hk_4 ?_)
    refine At.perm sel7 ?_
    refine At.perm sel7 ?_
    refine At.perm sel2 ?_
    refine At.perm sel7 ?_
    refine At.perm sel7 ?_
    refine At.perm sel7 ?_
    refine At.perm sel7 ?_
    refine At.perm sel7 ?_
    refine At.drawnS [N0, M, R] [9,12] [0,1,6] [0,1,2,3,4,6,5,7,8,9,10,11,12] (by kernel_rfl) (by kernel_rfl) (.cons _ (.cons _ (.cons _ (.cons _ (.cons _ (.refl _)))))) ?_
    refine op_move (nxsf rfl rfl rfl) rfl rfl ?_
    refine op_move (nxsf rfl rfl rfl) rfl rfl ?_
    refine op_nilChk (nxsf rfl rfl rfl) rfl rfl ?_
    refine op_fieldAddr (nxsf rfl rfl rfl) fl60_1 rfl rfl ?_
    refine op_loadB (nxsf rfl rfl rfl) sc55 rfl B0 (by first | rfl) mem0 rfl ?_
    refine op_move (nxsf rfl rfl rfl) rfl rfl ?_
    refine op_lit (Nx.agree (nxsm rfl rfl rfl)) Try.underlying22 ze5 sz5 .nil rfl rfl (by simp [Value.cells]) rfl rfl rfl (fun N32 a32 r32 => ?_)
    simp only [flatV, List.flatMap_cons, List.flatMap_nil, Value.cells, List.append_nil, List.cons_append, List.nil_append] at r32
    have s32 := r32.rsl
    refine At.moreS (Lst := [N0, M, R]) (Lst' := [N0, M, R]) (.refl _) (.cons _ (.cons _ (.cons _ (.cons _ (.cons _ (.cons _ (.refl _))))))) ?_
    refine op_append (nxsm rfl rfl rfl) Try.underlying22 Try.underlying22 te5 rfl rfl r32 hs (by first | exact mem0 | exact mem1 | exact mem2 | exact mem3 | exact mem4 | exact mem5 | exact mem6 | exact mem7 | exact mem8 | exact mem9) (by first | exact one_u8s _ | exact one_u64s _ | exact one_u32s _ | (intro u hu; simp at hu; subst hu; rfl)) (by omega) (by omega) sel0 rfl (fun N34 a34 p34 r34 => ?_)
    have s34 := r34.rsl
    refine At.perm sel8 ?_
    refine At.perm sel8 ?_
    refine At.perm sel8 ?_
    refine At.perm sel3 ?_
    refine At.perm sel8 ?_
    refine At.perm sel8 ?_
    refine At.perm sel8 ?_
    refine At.perm sel8 ?_
    refine At.perm sel8 ?_
    refine At.moreS (Lst := [N0, M, R]) (Lst' := [N34, N0, M, R]) (.cons _ (.refl _)) (.cons _ (.cons _ (.cons _ (.cons _ (.cons _ (.refl _)))))) ?_
    rw [List.nil_append, Nat.zero_add] at r34
    have s34 := r34.rsl
    rw [Nat.zero_add]
    refine op_lit (Nx.agree (nxsm rfl rfl rfl)) Try.underlying55 ze22 sz22 (.cons rfl .nil) rfl rfl (by simp [Value.cells]) rfl rfl rfl (fun N35 a35 r35 => ?_)
    simp only [flatV, List.flatMap_cons, List.flatMap_nil, Value.cells, List.append_nil, List.cons_append, List.nil_append] at r35
    have s35 := r35.rsl
    refine At.perm sel9 ?_
    refine At.perm sel9 ?_
    refine At.perm sel9 ?_
    refine At.perm sel9 ?_
    refine At.perm sel4 ?_
    refine At.perm sel9 ?_
    refine At.perm sel9 ?_
    refine At.perm sel9 ?_
    refine At.perm sel9 ?_
    refine At.perm sel9 ?_
    refine At.moreS (Lst := [N34, N0, M, R]) (Lst' := [N35, N34, N0, M, R]) (.cons _ (.refl _)) (.cons _ (.cons _ (.cons _ (.cons _ (.cons _ (.refl _)))))) ?_
    refine op_append (nxss rfl rfl rfl rfl) Try.underlying55 Try.underlying55 te22 rfl rfl rW s35 (by first | exact mem0 | exact mem1 | exact mem2 | exact mem3 | exact mem4 | exact mem5 | exact mem6 | exact mem7 | exact mem8 | exact mem9) (by first | exact one_u8s _ | exact one_u64s _ | exact one_u32s _ | (intro u hu; simp at hu; subst hu; rfl)) (by omega) (by omega) sel2 rfl (fun N36 a36 p36 r36 => ?_)
    have s36 := r36.rsl
    refine At.anyS (.refl _) ?_
    refine op_nilChk (nxsf rfl rfl rfl) rfl rfl ?_
    refine op_fieldAddr (nxsf rfl rfl rfl) fl60_1 rfl rfl ?_
    refine op_store (nxsl rfl rfl rfl rfl) sz55 rfl rfl rfl rfl rfl B0 (by simp) sel7 (fun N0 B0 => ?_)
    simp only [setL, List.set] at B0
    refine At.sNil ?_
    refine At.perm sel9 ?_
    refine At.perm sel8 ?_
    refine At.perm sel8 ?_
    refine At.perm sel7 ?_
    refine At.perm sel7 ?_
    refine At.perm sel7 ?_
    refine At.perm sel7 ?_
    refine At.perm sel7 ?_
    refine At.perm sel8 ?_
    refine At.perm sel9 ?_
    refine At.merge (fun h10 => ?_)
    refine At.perm sel8 ?_
    refine At.perm sel7 ?_
    refine At.perm sel6 ?_
    refine At.perm sel6 ?_
    refine At.perm sel6 ?_
    refine At.perm sel6 ?_
    refine At.perm sel6 ?_
    refine At.perm sel7 ?_
    refine At.perm sel8 ?_
    refine At.merge (fun h28 => ?_)
    refine At.sub (L' := [(join2 N34 NK), (join2 M NI), N0, N36, N24, R]) (.cons_cons _ (.cons_cons _ (.cons_cons _ (.cons_cons _ (.cons_cons _ (.cons _ (.cons _ (.cons_cons _ (.slnil))))))))) ?_
    refine At.perm sel5 ?_
    refine At.perm sel2 ?_
    refine At.perm sel2 ?_
    refine At.perm sel4 ?_
    refine At.perm sel5 ?_
    refine At.perm sel5 ?_
    refine At.retNE (L1 := [N0, N24, N36, (join2 N34 NK), (join2 M NI)]) rfl .nil rfl (.refl _) (.refl _) ?_
    refine ⟨rfl, N0, N24, N36, _, _, xs ++ [l], rfl, e0, a24, p24, a36, p36, _, _, q + l.length + 1, ?_, ?_, ?_, hI.snoc hr h10, hK.snoc s34 h28, by simp; omega, by omega, fun j x hx => ?_⟩
    · simpa using B0
    · simpa using r24
    · simpa using r36
    · rcases snoc_get hx with ⟨_, hx⟩ | ⟨_, rfl⟩
      · exact hb j x hx
      · exact hn
set_option maxRecDepth 100000 in
theorem BookStands_o {b0 : Nat} {N0 NF NW NK NI : Heaplet} {e0 : TypeId} {pf pw : Option Addr} {cf cw : Nat} {vf vw : List Value} {v2 v3 v4 : Value} {xs : List (List UInt8)} (B0 : Blk N0 b0 e0 [.slice pf xs.length cf, .slice pw xs.length cw, v2, v3, v4]) (rF : Row NF 22 1 pf xs.length cf vf) (rW : Row NW 22 1 pw xs.length cw vw) (hI : Bag 5 NI vf xs) (hK : Bags NK vw xs) :
    Fn Try.prog 46 #[.pointer (some ⟨b0, 0, none⟩)] [N0, NF, NW, NK, NI] [] (fun v L => v = .bool true ∧ L = [N0, NF, NW, NK, NI]) := by
  have sF := rF.rsl
  have sW := rW.rsl
  have hcf := sF.cap63
  have hcw := sW.cap63
  refine Fn.enter (vs := [.pointer (some ⟨b0, 0, none⟩)]) Try.func46 rfl rfl rfl ?_
  intro E R hR
  change At _ _ E [N0, NF, NW, NK, NI, R] _
  refine At.seq fun K1 hk_1 => ?_
  refine At.region ?_
  refine op_assign (nxlf rfl) rfl rfl ?_
  refine At.opsNil ?_
  refine At.norm (hk_1 ?_)
  refine At.seq fun K2 hk_2 => ?_
  refine At.seq fun K3 hk_3 => ?_
  refine At.region ?_
  refine op_assign (nxlf rfl) rfl rfl ?_
  refine At.opsNil ?_
  refine At.norm (hk_3 ?_)
  refine At.block ?_
  refine At.loop (fun fr_ hp_ ms_ => ∃ (i : Nat), fr_ = [(0, .pointer (some ⟨b0, 0, none⟩)), (3, .int .i64 (i : Int))] ∧ hp_ = [N0, NF, NW, NK, NI, R] ∧ xs.length - i = ms_ ∧ (i ≤ xs.length)) ?_ (.refl _) ⟨0, rfl, rfl, rfl, by omega⟩ ?_
  · exact .cons (by first | exact lkI rfl (by omega) | rfl) (.cons (by first | exact lkI rfl (by omega) | rfl) .nil)
  rintro _ _ _ ⟨i, rfl, rfl, rfl, hi⟩
  refine At.seq fun K4 hk_4 => ?_
  refine At.seq fun K5 hk_5 => ?_
  refine At.region ?_
  refine op_move (nxlf rfl) rfl rfl ?_
  refine op_move (nxlf rfl) rfl rfl ?_
  refine op_nilChk (nxlf rfl) rfl rfl ?_
  refine op_fieldAddr (nxlf rfl) fl60_0 rfl rfl ?_
  refine op_loadB (nxlf rfl) sc55 rfl B0 (by first | rfl) mem0 rfl ?_
  refine op_lenS (nxlf rfl) se55 rfl rfl ?_
  refine op_lss (nxlf rfl) rfl rfl rfl ?_
  refine At.opsNil ?_
  refine At.norm (hk_5 ?_)
  refine At.condP rfl (fun c10 => ?_) (fun c10 => ?_)
  · obtain ⟨x, hx⟩ := get_lt (xs := xs) (i := i) (by omega)
    obtain ⟨p, c, hv, hr⟩ := hI.row i x hx
    obtain ⟨q, d, hv2, hr2⟩ := hK.rsl i x hx
    have hrs := hr.rsl
    refine At.skip ?_
    refine At.norm (hk_4 ?_)
    refine At.seq fun K6 hk_6 => ?_
    refine At.block ?_
    refine At.seq fun K7 hk_7 => ?_
    refine At.drawnS [N0, NF, NW, NK, NI, R] [] [] [0,1,2,3,4,5,6,7,8,9,10,11,12,13,14,15,16] (by kernel_rfl) (by kernel_rfl) (.refl _) ?_
    refine op_move (nxsf rfl rfl rfl) rfl rfl ?_
    refine op_nilChk (nxsf rfl rfl rfl) rfl rfl ?_
    refine op_fieldAddr (nxsf rfl rfl rfl) fl60_0 rfl rfl ?_
    refine op_loadB (nxsf rfl rfl rfl) sc55 rfl B0 (by first | rfl) mem0 rfl ?_
    refine op_move (nxsf rfl rfl rfl) rfl rfl ?_
    refine op_idx1 (nxsf rfl rfl rfl) se55 rfl rfl sF (show _ = (((i : Nat)) : Int) from by omega) (by omega) rfl ?_
    refine op_loadE (nxsf rfl rfl rfl) sc22 rfl sF (by first | exact get8 (by omega) | exact get64 (by omega) | exact get32 (by omega) | exact hv) (by first | exact mem0 | exact mem1 | exact mem2 | exact mem3 | exact mem4 | exact mem5 | exact mem6 | exact mem7 | exact mem8 | exact mem9) rfl ?_
    refine op_str (nxsf rfl rfl rfl) Try.underlying22 Try.underlying5 Try.underlying9 rfl (by assumption) (by first | exact mem0 | exact mem1 | exact mem2 | exact mem3 | exact mem4 | exact mem5 | exact mem6 | exact mem7 | exact mem8 | exact mem9) rfl ?_
    refine op_move (nxsf rfl rfl rfl) rfl rfl ?_
    refine op_nilChk (nxsf rfl rfl rfl) rfl rfl ?_
    refine op_fieldAddr (nxsf rfl rfl rfl) fl60_1 rfl rfl ?_
    refine op_loadB (nxsf rfl rfl rfl) sc55 rfl B0 (by first | rfl) mem0 rfl ?_
    refine op_move (nxsf rfl rfl rfl) rfl rfl ?_
    refine op_idx1 (nxsf rfl rfl rfl) se55 rfl rfl sW (show _ = (((i : Nat)) : Int) from by omega) (by omega) rfl ?_
    refine op_loadE (nxsf rfl rfl rfl) sc22 rfl sW (by first | exact get8 (by omega) | exact get64 (by omega) | exact get32 (by omega) | exact hv2) (by first | exact mem0 | exact mem1 | exact mem2 | exact mem3 | exact mem4 | exact mem5 | exact mem6 | exact mem7 | exact mem8 | exact mem9) rfl ?_
    refine op_str (nxsf rfl rfl rfl) Try.underlying22 Try.underlying5 Try.underlying9 rfl (by assumption) (by first | exact mem0 | exact mem1 | exact mem2 | exact mem3 | exact mem4 | exact mem5 | exact mem6 | exact mem7 | exact mem8 | exact mem9) rfl ?_
    refine op_neS (nxsf rfl rfl rfl) rfl rfl rfl ?_
    refine At.sNil ?_
    refine At.norm (hk_7 ?_)
    refine At.condP rfl (fun c29 => ?_) (fun c29 => ?_)
    · exact absurd rfl c29
    · refine At.skip ?_
      refine At.inNorm ?_
      refine At.norm (hk_6 ?_)
      refine At.region ?_
      refine op_move (nxlf rfl) rfl rfl ?_
      refine op_addI (nxlf rfl) rfl rfl (by omega) (by omega) rfl ?_
      refine op_assign (nxlf rfl) rfl rfl ?_
      refine At.opsNil ?_
      refine At.norm ?_
      refine At.back ?_ (.refl _) ⟨i + 1, rfl, rfl, rfl, by omega⟩ ?_
      · exact .cons (by first | exact lkI rfl (by omega) | rfl) (.cons (by first | exact lkI rfl (by omega) | rfl) .nil)
      · omega
  · refine At.exit (At.thenExit (At.thenExit (At.inHit ?_)))
    refine At.norm (hk_2 ?_)
    refine At.seq fun K8 hk_8 => ?_
    refine At.region ?_
    refine op_assign (nxlf rfl) rfl rfl ?_
    refine At.opsNil ?_
    refine At.norm (hk_8 ?_)
    refine At.ret (?_)
    refine At.ret1 (L1 := [N0, NF, NW, NK, NI]) rfl (.tmp rfl .nil) (.refl _) (.refl _) ?_
    exact ⟨rfl, rfl⟩
end Go.Proofs.Ytohmmgggaegbbaa
