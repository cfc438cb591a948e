/- Several texts in one: see the remarks ahead of each part. No condition but those told there. -/
import Derived.Test.YtdplcfineaikjaaDoorA9
import Derived.Test.YtdplcfineaikjaaDoorA1
import Derived.Test.YtdplcfineaikjaaDoorG13
import Derived.Test.YtdplcfineaikjaaDoorTy
/- quarrykeep.Loan: lists of bytes that are handed in. Condition: lists of at most 2^40 bytes, at most 2^30 of them. -/
namespace Go.Proofs.YtdplcfineaikjaaDoor
set_option linter.unusedVariables false
set_option linter.unusedSimpArgs false
open Go Go.RowKit
theorem u8s_append (a b : List UInt8) : u8s (a ++ b) = u8s a ++ u8s b := by simp [u8s]
def marks : List UInt8 := [77, 78, 79, 80, 81]
/-- The loan's parts: its struct, its two lists, the copies; and what is lent. -/
def LoanO (b0 : Nat) (N0 NF NW NK NI : Heaplet) (fs : List (List UInt8)) : Prop :=
  ∃ e0 pf cf pw cw vf vw, Blk N0 b0 e0 [.slice pf fs.length cf, .slice pw fs.length cw] ∧ Row NF 22 1 pf fs.length cf vf ∧ Row NW 22 1 pw fs.length cw vw ∧ Bag 5 NI vf fs ∧ Bags NK vw fs
set_option maxRecDepth 100000 in
theorem LoanBytes_o {b0 : Nat} {N0 NF NW NK NI N : Heaplet} {fs : List (List UInt8)} {ao : Option Addr} {n cap : Nat} {l : List UInt8} (h : LoanO b0 N0 NF NW NK NI fs) (hs : RSl N 1 ao n cap (u8s l)) (hn : n ≤ 1099511627776) (hk : fs.length ≤ 1073741824) :
    Fn Tryd.prog 22 #[.pointer (some ⟨b0, 0, none⟩), .slice ao n cap] [N0, NF, NW, NK, NI] [N] (fun v L => ∃ N0' NF' NW' M1 M2 p c, v = .slice p n c ∧ L = [N0', NF', NW', join2 M2 NK, join2 M1 NI] ∧ Apart M1 NI ∧ LoanO b0 N0' NF' NW' (join2 M2 NK) (join2 M1 NI) (fs ++ [l ++ marks]) ∧ RSl M1 1 p n c (u8s l)) := by
  obtain ⟨e0, pf, cf, pw, cw, vf, vw, B0, rF, rW, hI, hK⟩ := h
  have hlen := hs.len8
  have hcap := hs.cap63
  have hcf := rF.rsl.cap63
  have hcw := rW.rsl.cap63
  have hml : (l ++ marks).length = 0 + n + 5 := by rw [List.length_append, hlen, Nat.zero_add]; rfl
  refine Fn.enter (vs := [.pointer (some ⟨b0, 0, none⟩), .slice ao n cap]) Tryd.func22 rfl rfl rfl ?_
  intro E R hR
  have hs := hs.le (hR N (by simp))
  change At _ _ E [N0, NF, NW, NK, NI, R] _
  refine At.seq fun K1 hk_1 => ?_
  refine At.region ?_
  refine op_assign (nxlf rfl) rfl rfl ?_
  refine At.opsNil ?_
  refine At.norm (hk_1 ?_)
  refine At.seq fun K2 hk_2 => ?_
  refine At.region ?_
  refine op_lit (nxla rfl) Tryd.underlying22 ze5 sz5 .nil rfl rfl (by simp [Value.cells]) rfl rfl rfl (fun N6 a6 r6 => ?_)
  simp only [flatV, List.flatMap_cons, List.flatMap_nil, Value.cells, List.append_nil, List.cons_append, List.nil_append] at r6
  have s6 := r6.rsl
  refine op_move (nxlf rfl) rfl rfl ?_
  refine op_append (nxl rfl) Tryd.underlying22 Tryd.underlying22 te5 rfl rfl r6 (by assumption) (by first | exact mem0 | exact mem1 | exact mem2 | exact mem3 | exact mem4 | exact mem5 | exact mem6 | exact mem7 | exact mem8 | exact mem9) (by first | exact one_u8s _ | exact one_u64s _ | exact one_u32s _ | (intro u hu; simp at hu; subst hu; rfl)) (by omega) (by omega) sel0 rfl (fun N8 a8 p8 r8 => ?_)
  have s8 := r8.rsl
  refine op_lit (nxla rfl) Tryd.underlying22 ze5 sz5 (.cons rfl (.cons rfl (.cons rfl (.cons rfl (.cons rfl .nil))))) rfl rfl (by simp [Value.cells]) rfl rfl rfl (fun N9 a9 r9 => ?_)
  simp only [flatV, List.flatMap_cons, List.flatMap_nil, Value.cells, List.append_nil, List.cons_append, List.nil_append] at r9
  have s9 := r9.rsl
  change Row N9 _ 1 a9 5 5 (u8s marks) at r9
  have s9 := r9.rsl
  refine op_append (nxl rfl) Tryd.underlying22 Tryd.underlying22 te5 rfl rfl r8 s9 (by first | exact mem0 | exact mem1 | exact mem2 | exact mem3 | exact mem4 | exact mem5 | exact mem6 | exact mem7 | exact mem8 | exact mem9) (by first | exact one_u8s _ | exact one_u64s _ | exact one_u32s _ | (intro u hu; simp at hu; subst hu; rfl)) (by omega) (by omega) sel1 rfl (fun N10 a10 p10 r10 => ?_)
  have s10 := r10.rsl
  rw [List.nil_append, ← u8s_append, ← hml] at r10
  have s10 := r10.rsl
  have hc10 := s10.cap63
  rw [← hml]
  refine op_assign (nxlf rfl) rfl rfl ?_
  refine At.opsNil ?_
  refine At.norm (hk_2 ?_)
  refine At.seq fun K3 hk_3 => ?_
  refine At.region ?_
  refine op_move (nxlf rfl) rfl rfl ?_
  refine op_move (nxlf rfl) rfl rfl ?_
  refine op_nilChk (nxlf rfl) rfl rfl ?_
  refine op_fieldAddr (nxlf rfl) fl45_0 rfl rfl ?_
  refine op_loadB (nxlf rfl) sc43 rfl B0 (by first | rfl) mem2 rfl ?_
  refine op_move (nxlf rfl) rfl rfl ?_
  refine op_lit (nxla rfl) Tryd.underlying43 ze22 sz22 (.cons rfl .nil) rfl rfl (by simp [Value.cells]) rfl rfl rfl (fun N17 a17 r17 => ?_)
  simp only [flatV, List.flatMap_cons, List.flatMap_nil, Value.cells, List.append_nil, List.cons_append, List.nil_append] at r17
  have s17 := r17.rsl
  refine op_append (nxl rfl) Tryd.underlying43 Tryd.underlying43 te22 rfl rfl rF s17 (by first | exact mem0 | exact mem1 | exact mem2 | exact mem3 | exact mem4 | exact mem5 | exact mem6 | exact mem7 | exact mem8 | exact mem9) (by first | exact one_u8s _ | exact one_u64s _ | exact one_u32s _ | (intro u hu; simp at hu; subst hu; rfl)) (by omega) (by omega) sel4 rfl (fun N18 a18 p18 r18 => ?_)
  have s18 := r18.rsl
  refine op_nilChk (nxlf rfl) rfl rfl ?_
  refine op_fieldAddr (nxlf rfl) fl45_0 rfl rfl ?_
  refine op_store (nxl rfl) sz43 rfl rfl rfl rfl rfl B0 (by simp) sel4 (fun N0 B0 => ?_)
  simp only [setL, List.set] at B0
  refine At.opsNil ?_
  refine At.norm (hk_3 ?_)
  refine At.seq fun K4 hk_4 => ?_
  refine At.perm sel8 ?_
  refine At.perm sel4 ?_
  refine At.perm sel2 ?_
  refine At.perm sel8 ?_
  refine At.perm sel8 ?_
  refine At.perm sel8 ?_
  refine At.perm sel8 ?_
  refine At.perm sel8 ?_
  refine At.perm sel8 ?_
  refine At.drawnS [N0, N10, R] [9,12] [0,1,6] [0,1,2,3,4,6,5,7,8,9,10,11,12] (by kernel_rfl) (by kernel_rfl) (.cons _ (.cons _ (.cons _ (.cons _ (.cons _ (.cons _ (.refl _))))))) ?_
  refine op_move (nxsf rfl rfl rfl) rfl rfl ?_
  refine op_move (nxsf rfl rfl rfl) rfl rfl ?_
  refine op_nilChk (nxsf rfl rfl rfl) rfl rfl ?_
  refine op_fieldAddr (nxsf rfl rfl rfl) fl45_1 rfl rfl ?_
  refine op_loadB (nxsf rfl rfl rfl) sc43 rfl B0 (by first | rfl) mem0 rfl ?_
  refine op_move (nxsf rfl rfl rfl) rfl rfl ?_
  refine op_lit (Nx.agree (nxsm rfl rfl rfl)) Tryd.underlying22 ze5 sz5 .nil rfl rfl (by simp [Value.cells]) rfl rfl rfl (fun N26 a26 r26 => ?_)
  simp only [flatV, List.flatMap_cons, List.flatMap_nil, Value.cells, List.append_nil, List.cons_append, List.nil_append] at r26
  have s26 := r26.rsl
  refine At.moreS (Lst := [N0, N10, R]) (Lst' := [N0, N10, R]) (.refl _) (.cons _ (.cons _ (.cons _ (.cons _ (.cons _ (.cons _ (.cons _ (.refl _)))))))) ?_
  refine op_append (nxsm rfl rfl rfl) Tryd.underlying22 Tryd.underlying22 te5 rfl rfl r26 s10 (by first | exact mem0 | exact mem1 | exact mem2 | exact mem3 | exact mem4 | exact mem5 | exact mem6 | exact mem7 | exact mem8 | exact mem9) (by first | exact one_u8s _ | exact one_u64s _ | exact one_u32s _ | (intro u hu; simp at hu; subst hu; rfl)) (by omega) (by omega) sel0 rfl (fun N28 a28 p28 r28 => ?_)
  have s28 := r28.rsl
  refine At.perm sel9 ?_
  refine At.perm sel9 ?_
  refine At.perm sel9 ?_
  refine At.perm sel3 ?_
  refine At.perm sel9 ?_
  refine At.perm sel9 ?_
  refine At.perm sel9 ?_
  refine At.perm sel9 ?_
  refine At.perm sel9 ?_
  refine At.perm sel9 ?_
  refine At.moreS (Lst := [N0, N10, R]) (Lst' := [N28, N0, N10, R]) (.cons _ (.refl _)) (.cons _ (.cons _ (.cons _ (.cons _ (.cons _ (.cons _ (.refl _))))))) ?_
  rw [List.nil_append, Nat.zero_add] at r28
  have s28 := r28.rsl
  rw [Nat.zero_add]
  refine op_lit (Nx.agree (nxsm rfl rfl rfl)) Tryd.underlying43 ze22 sz22 (.cons rfl .nil) rfl rfl (by simp [Value.cells]) rfl rfl rfl (fun N29 a29 r29 => ?_)
  simp only [flatV, List.flatMap_cons, List.flatMap_nil, Value.cells, List.append_nil, List.cons_append, List.nil_append] at r29
  have s29 := r29.rsl
  refine At.perm sel10 ?_
  refine At.perm sel10 ?_
  refine At.perm sel10 ?_
  refine At.perm sel10 ?_
  refine At.perm sel4 ?_
  refine At.perm sel10 ?_
  refine At.perm sel10 ?_
  refine At.perm sel10 ?_
  refine At.perm sel10 ?_
  refine At.perm sel10 ?_
  refine At.perm sel10 ?_
  refine At.moreS (Lst := [N28, N0, N10, R]) (Lst' := [N29, N28, N0, N10, R]) (.cons _ (.refl _)) (.cons _ (.cons _ (.cons _ (.cons _ (.cons _ (.cons _ (.refl _))))))) ?_
  refine op_append (nxss rfl rfl rfl rfl) Tryd.underlying43 Tryd.underlying43 te22 rfl rfl rW s29 (by first | exact mem0 | exact mem1 | exact mem2 | exact mem3 | exact mem4 | exact mem5 | exact mem6 | exact mem7 | exact mem8 | exact mem9) (by first | exact one_u8s _ | exact one_u64s _ | exact one_u32s _ | (intro u hu; simp at hu; subst hu; rfl)) (by omega) (by omega) sel3 rfl (fun N30 a30 p30 r30 => ?_)
  have s30 := r30.rsl
  refine At.anyS (.refl _) ?_
  refine op_nilChk (nxsf rfl rfl rfl) rfl rfl ?_
  refine op_fieldAddr (nxsf rfl rfl rfl) fl45_1 rfl rfl ?_
  refine op_store (nxsl rfl rfl rfl rfl) sz43 rfl rfl rfl rfl rfl B0 (by simp) sel8 (fun N0 B0 => ?_)
  simp only [setL, List.set] at B0
  refine At.sNil ?_
  refine At.norm (hk_4 ?_)
  refine At.seq fun K5 hk_5 => ?_
  refine At.region ?_
  refine op_move (nxlf rfl) rfl rfl ?_
  refine op_move (nxlf rfl) rfl rfl ?_
  refine op_lenS (nxlf rfl) se22 rfl rfl ?_
  refine op_slice0 (nxlf rfl) se22 rfl (.some rfl (show _ = (((n : Nat)) : Int) from by omega)) .none (by omega) (by omega) (by simp) rfl ?_
  refine op_assign (nxlf rfl) rfl rfl ?_
  refine At.opsNil ?_
  refine At.norm (hk_5 ?_)
  refine At.ret (?_)
  have s36 := s10.take8 (hi := n) (m := p10) (by omega) (by omega) (by omega)
  rw [show (l ++ marks).take n = l from by rw [← hlen]; exact List.take_left] at s36
  refine At.perm sel10 ?_
  refine At.perm sel9 ?_
  refine At.perm sel9 ?_
  refine At.perm sel8 ?_
  refine At.perm sel8 ?_
  refine At.perm sel8 ?_
  refine At.perm sel8 ?_
  refine At.perm sel8 ?_
  refine At.perm sel8 ?_
  refine At.perm sel9 ?_
  refine At.perm sel10 ?_
  refine At.merge (fun h10 => ?_)
  refine At.perm sel9 ?_
  refine At.perm sel8 ?_
  refine At.perm sel7 ?_
  refine At.perm sel7 ?_
  refine At.perm sel7 ?_
  refine At.perm sel7 ?_
  refine At.perm sel7 ?_
  refine At.perm sel7 ?_
  refine At.perm sel8 ?_
  refine At.perm sel9 ?_
  refine At.merge (fun h28 => ?_)
  refine At.sub (L' := [(join2 N28 NK), (join2 N10 NI), N0, N30, N18, R]) (.cons_cons _ (.cons_cons _ (.cons_cons _ (.cons_cons _ (.cons_cons _ (.cons _ (.cons _ (.cons _ (.cons_cons _ (.slnil)))))))))) ?_
  refine At.perm sel5 ?_
  refine At.perm sel2 ?_
  refine At.perm sel2 ?_
  refine At.perm sel4 ?_
  refine At.perm sel5 ?_
  refine At.perm sel5 ?_
  refine At.ret1 (L1 := [N0, N18, N30, (join2 N28 NK), (join2 N10 NI)]) rfl (.tmp rfl .nil) (.refl _) (.refl _) ?_
  refine ⟨N0, N18, N30, N10, N28, a10, p10, rfl, rfl, h10, ⟨e0, a18, p18, a30, p30, _, _, ?_, ?_, ?_, hI.snoc r10 h10, hK.snoc s28 h28⟩, s36⟩
  · simpa using B0
  · simpa using r18
  · simpa using r30
end Go.Proofs.YtdplcfineaikjaaDoor
/- quarrykeep.Loan: what was handed in is as it was. No condition. -/
namespace Go.Proofs.YtdplcfineaikjaaDoor
set_option linter.unusedVariables false
set_option linter.unusedSimpArgs false
open Go Go.RowKit
theorem set_get {α : Type} {xs : List α} {i : Nat} {x y : α} (h : xs[i]? = some x) : (xs.set i y)[i]? = some y := by
  rw [List.getElem?_set_self (List.getElem?_eq_some_iff.1 h).1]
theorem get_set_ne {α : Type} {xs : List α} {i j : Nat} {y : α} (h : i ≠ j) : (xs.set i y)[j]? = xs[j]? := List.getElem?_set_ne h
theorem get_lt {α : Type} {xs : List α} {i : Nat} (h : i < xs.length) : ∃ x, xs[i]? = some x := ⟨_, List.getElem?_eq_getElem h⟩
theorem str_same (x : List UInt8) : decide (x = x) = true := decide_eq_true rfl
theorem set8R (l : List UInt8) (j : Nat) (x : UInt8) : setL (u8s l) j [.int .u8 (x.toNat : Int)] = u8s (l.set j x) := by rw [setL, setL, set_u8s]
set_option maxRecDepth 100000 in
theorem LoanBack_o {b0 : Nat} {N0 NF NW NK NI : Heaplet} {fs : List (List UInt8)} (h : LoanO b0 N0 NF NW NK NI fs) :
    Fn Tryd.prog 23 #[.pointer (some ⟨b0, 0, none⟩)] [N0, NF, NW, NK, NI] [] (fun v L => v = .bool true ∧ L = []) := by
  obtain ⟨e0, pf, cf, pw, cw, vf, vw, B0, rF, rW, hI, hK⟩ := h
  have hcf := rF.rsl.cap63
  have hcw := rW.rsl.cap63
  have sF := rF.rsl
  have sW := rW.rsl
  refine Fn.enter (vs := [.pointer (some ⟨b0, 0, none⟩)]) Tryd.func23 rfl rfl rfl ?_
  intro E R hR
  change At _ _ E [N0, NF, NW, NK, NI, R] _
  refine At.seq fun K1 hk_1 => ?_
  refine At.region ?_
  refine op_assign (nxlf rfl) rfl rfl ?_
  refine At.opsNil ?_
  refine At.norm (hk_1 ?_)
  refine At.seq fun K2 hk_2 => ?_
  refine At.region ?_
  refine op_assign (nxlf rfl) rfl rfl ?_
  refine At.opsNil ?_
  refine At.norm (hk_2 ?_)
  refine At.seq fun K3 hk_3 => ?_
  refine At.seq fun K4 hk_4 => ?_
  refine At.region ?_
  refine op_assign (nxlf rfl) rfl rfl ?_
  refine At.opsNil ?_
  refine At.norm (hk_4 ?_)
  refine At.block ?_
  refine At.loop (fun fr_ hp_ ms_ => ∃ (i : Nat) (NI : Heaplet) (gs : List (List UInt8)), fr_ = [(0, .pointer (some ⟨b0, 0, none⟩)), (3, .bool true), (4, .int .i64 (i : Int))] ∧ hp_ = [N0, NF, NW, NK, NI, R] ∧ fs.length - i = ms_ ∧ (i ≤ fs.length) ∧ (Bag 5 NI vf gs) ∧ (gs.length = fs.length) ∧ (∀ j, i ≤ j → gs[j]? = fs[j]?)) ?_ (.refl _) ⟨0, NI, fs, rfl, rfl, rfl, by omega, hI, rfl, fun _ _ => rfl⟩ ?_
  · exact .cons (by first | exact lkI rfl (by omega) | rfl) (.cons (by first | exact lkI rfl (by omega) | rfl) (.cons (by first | exact lkI rfl (by omega) | rfl) .nil))
  rintro _ _ _ ⟨i, NI, gs, rfl, rfl, rfl, hi, hg, hgl, hgf⟩
  refine At.seq fun K5 hk_5 => ?_
  refine At.seq fun K6 hk_6 => ?_
  refine At.region ?_
  refine op_move (nxlf rfl) rfl rfl ?_
  refine op_move (nxlf rfl) rfl rfl ?_
  refine op_nilChk (nxlf rfl) rfl rfl ?_
  refine op_fieldAddr (nxlf rfl) fl45_0 rfl rfl ?_
  refine op_loadB (nxlf rfl) sc43 rfl B0 (by first | rfl) mem0 rfl ?_
  refine op_lenS (nxlf rfl) se43 rfl rfl ?_
  refine op_lss (nxlf rfl) rfl rfl rfl ?_
  refine At.opsNil ?_
  refine At.norm (hk_6 ?_)
  refine At.condP rfl (fun c12 => ?_) (fun c12 => ?_)
  · obtain ⟨x, hx⟩ := get_lt (xs := fs) (i := i) (by omega)
    obtain ⟨p, c, hv, hr⟩ := hg.row i x (by rw [hgf i (Nat.le_refl _), hx])
    obtain ⟨q, d, hv2, hr2⟩ := hK.rsl i x hx
    have hrs := hr.rsl
    refine At.skip ?_
    refine At.norm (hk_5 ?_)
    refine At.seq fun K7 hk_7 => ?_
    refine At.block ?_
    refine At.seq fun K8 hk_8 => ?_
    refine At.drawnS [N0, NF, NW, NK, NI, R] [] [] [0,1,2,3,4,5,6,7,8,9,10,11,12,13,14,15,16,17,18,19,20] (by kernel_rfl) (by kernel_rfl) (.refl _) ?_
    refine op_move (nxsf rfl rfl rfl) rfl rfl ?_
    refine op_move (nxsf rfl rfl rfl) rfl rfl ?_
    refine op_move (nxsgf rfl rfl rfl rfl rfl rfl) rfl rfl ?_
    refine op_nilChk (nxsgf rfl rfl rfl rfl rfl rfl) rfl rfl ?_
    refine op_fieldAddr (nxsgf rfl rfl rfl rfl rfl rfl) fl45_0 rfl rfl ?_
    refine op_loadB (nxsgf rfl rfl rfl rfl rfl rfl) sc43 rfl B0 (by first | rfl) mem0 rfl ?_
    refine op_move (nxsgf rfl rfl rfl rfl rfl rfl) rfl rfl ?_
    refine op_idx1 (nxsgf rfl rfl rfl rfl rfl rfl) se43 rfl rfl sF (show _ = (((i : Nat)) : Int) from by omega) (by omega) rfl ?_
    refine op_loadE (nxsgf rfl rfl rfl rfl rfl rfl) sc22 rfl sF (by first | exact get8 (by omega) | exact get64 (by omega) | exact get32 (by omega) | exact hv) (by first | exact mem0 | exact mem1 | exact mem2 | exact mem3 | exact mem4 | exact mem5 | exact mem6 | exact mem7 | exact mem8 | exact mem9) rfl ?_
    refine op_str (nxsgf rfl rfl rfl rfl rfl rfl) Tryd.underlying22 Tryd.underlying5 Tryd.underlying9 rfl (by assumption) (by first | exact mem0 | exact mem1 | exact mem2 | exact mem3 | exact mem4 | exact mem5 | exact mem6 | exact mem7 | exact mem8 | exact mem9) rfl ?_
    refine op_move (nxsgf rfl rfl rfl rfl rfl rfl) rfl rfl ?_
    refine op_nilChk (nxsgf rfl rfl rfl rfl rfl rfl) rfl rfl ?_
    refine op_fieldAddr (nxsgf rfl rfl rfl rfl rfl rfl) fl45_1 rfl rfl ?_
    refine op_loadB (nxsgf rfl rfl rfl rfl rfl rfl) sc43 rfl B0 (by first | rfl) mem0 rfl ?_
    refine op_move (nxsgf rfl rfl rfl rfl rfl rfl) rfl rfl ?_
    refine op_idx1 (nxsgf rfl rfl rfl rfl rfl rfl) se43 rfl rfl sW (show _ = (((i : Nat)) : Int) from by omega) (by omega) rfl ?_
    refine op_loadE (nxsgf rfl rfl rfl rfl rfl rfl) sc22 rfl sW (by first | exact get8 (by omega) | exact get64 (by omega) | exact get32 (by omega) | exact hv2) (by first | exact mem0 | exact mem1 | exact mem2 | exact mem3 | exact mem4 | exact mem5 | exact mem6 | exact mem7 | exact mem8 | exact mem9) rfl ?_
    refine op_str (nxsgf rfl rfl rfl rfl rfl rfl) Tryd.underlying22 Tryd.underlying5 Tryd.underlying9 rfl (by assumption) (by first | exact mem0 | exact mem1 | exact mem2 | exact mem3 | exact mem4 | exact mem5 | exact mem6 | exact mem7 | exact mem8 | exact mem9) rfl ?_
    refine op_eqS (nxsgf rfl rfl rfl rfl rfl rfl) rfl rfl rfl ?_
    rw [str_same x]
    refine op_pickT (nxsf rfl rfl rfl) rfl rfl rfl ?_
    refine op_assign (nxsf rfl rfl rfl) rfl rfl ?_
    refine At.sNil ?_
    refine At.norm (hk_8 ?_)
    refine At.seq fun K9 hk_9 => ?_
    refine At.region ?_
    refine op_assign (nxlf rfl) rfl rfl ?_
    refine At.opsNil ?_
    refine At.norm (hk_9 ?_)
    refine At.block ?_
    refine At.loop (fun fr_ hp_ ms_ => ∃ (k : Nat) (NI : Heaplet) (hs : List (List UInt8)) (y : List UInt8), fr_ = [(0, .pointer (some ⟨b0, 0, none⟩)), (3, .bool true), (4, .int .i64 (i : Int)), (5, .int .i64 (k : Int))] ∧ hp_ = [N0, NF, NW, NK, NI, R] ∧ x.length - k = ms_ ∧ (k ≤ x.length) ∧ (Bag 5 NI vf hs) ∧ (hs.length = fs.length) ∧ (hs[i]? = some y) ∧ (y.length = x.length) ∧ (∀ j, i + 1 ≤ j → hs[j]? = fs[j]?)) ?_ (.refl _) ⟨0, NI, gs, x, rfl, rfl, rfl, by omega, hg, hgl, by rw [hgf i (Nat.le_refl _), hx], rfl, fun j hj => hgf j (by omega)⟩ ?_
    · exact .cons (by first | exact lkI rfl (by omega) | rfl) (.cons (by first | exact lkI rfl (by omega) | rfl) (.cons (by first | exact lkI rfl (by omega) | rfl) (.cons (by first | exact lkI rfl (by omega) | rfl) .nil)))
    rintro _ _ _ ⟨k, NI, hs, y, rfl, rfl, rfl, hk, hh, hhl, hy, hyl, hhf⟩
    obtain ⟨p', c', hv', hr'⟩ := hh.row i y hy
    have hrs' := hr'.rsl
    have hcp' := hrs'.cap63
    refine At.seq fun K10 hk_10 => ?_
    refine At.seq fun K11 hk_11 => ?_
    refine At.region ?_
    refine op_move (nxlf rfl) rfl rfl ?_
    refine op_move (nxlf rfl) rfl rfl ?_
    refine op_nilChk (nxlf rfl) rfl rfl ?_
    refine op_fieldAddr (nxlf rfl) fl45_0 rfl rfl ?_
    refine op_loadB (nxlf rfl) sc43 rfl B0 (by first | rfl) mem0 rfl ?_
    refine op_move (nxlf rfl) rfl rfl ?_
    refine op_idx1 (nxlf rfl) se43 rfl rfl sF (show _ = (((i : Nat)) : Int) from by omega) (by omega) rfl ?_
    refine op_loadE (nxlf rfl) sc22 rfl sF (by first | exact get8 (by omega) | exact get64 (by omega) | exact get32 (by omega) | exact hv') (by first | exact mem0 | exact mem1 | exact mem2 | exact mem3 | exact mem4 | exact mem5 | exact mem6 | exact mem7 | exact mem8 | exact mem9) rfl ?_
    refine op_lenS (nxlf rfl) se22 rfl rfl ?_
    refine op_lss (nxlf rfl) rfl rfl rfl ?_
    refine At.opsNil ?_
    refine At.norm (hk_11 ?_)
    refine At.condP rfl (fun c44 => ?_) (fun c44 => ?_)
    · refine At.skip ?_
      refine At.norm (hk_10 ?_)
      refine At.seq fun K12 hk_12 => ?_
      refine At.block ?_
      refine At.region ?_
      refine op_move (nxlf rfl) rfl rfl ?_
      refine op_nilChk (nxlf rfl) rfl rfl ?_
      refine op_fieldAddr (nxlf rfl) fl45_0 rfl rfl ?_
      refine op_loadB (nxlf rfl) sc43 rfl B0 (by first | rfl) mem0 rfl ?_
      refine op_move (nxlf rfl) rfl rfl ?_
      refine op_idx1 (nxlf rfl) se43 rfl rfl sF (show _ = (((i : Nat)) : Int) from by omega) (by omega) rfl ?_
      refine op_loadE (nxlf rfl) sc22 rfl sF (by first | exact get8 (by omega) | exact get64 (by omega) | exact get32 (by omega) | exact hv') (by first | exact mem0 | exact mem1 | exact mem2 | exact mem3 | exact mem4 | exact mem5 | exact mem6 | exact mem7 | exact mem8 | exact mem9) rfl ?_
      refine op_move (nxlf rfl) rfl rfl ?_
      refine op_idx1 (nxlf rfl) se22 rfl rfl hrs' (show _ = (((k : Nat)) : Int) from by omega) (by omega) rfl ?_
      refine op_storeU (nxl rfl) sz5 rfl rfl rfl rfl rfl hr' (by simp <;> omega) (by simp) sel4 (fun NJ rJ oJ => ?_)
      change Row NJ _ 1 p' y.length c' (setL (u8s y) k [.int .u8 (((90 : UInt8).toNat : Nat) : Int)]) at rJ
      rw [set8R] at rJ
      refine At.opsNil ?_
      refine At.inNorm ?_
      refine At.norm (hk_12 ?_)
      refine At.region ?_
      refine op_move (nxlf rfl) rfl rfl ?_
      refine op_addI (nxlf rfl) rfl rfl (by omega) (by omega) rfl ?_
      refine op_assign (nxlf rfl) rfl rfl ?_
      refine At.opsNil ?_
      refine At.norm ?_
      refine At.perm sel5 ?_
      refine At.perm sel1 ?_
      refine At.perm sel5 ?_
      refine At.perm sel5 ?_
      refine At.perm sel5 ?_
      refine At.perm sel5 ?_
      refine At.back ?_ (.refl _) ⟨k + 1, NJ, hs.set i (y.set k 90), y.set k 90, rfl, rfl, rfl, by omega, hh.set hv' rJ oJ, by rw [List.length_set, hhl], set_get hy, by rw [List.length_set, hyl], fun j hj => by rw [get_set_ne (by omega), hhf j hj]⟩ ?_
      · exact .cons (by first | exact lkI rfl (by omega) | rfl) (.cons (by first | exact lkI rfl (by omega) | rfl) (.cons (by first | exact lkI rfl (by omega) | rfl) (.cons (by first | exact lkI rfl (by omega) | rfl) .nil)))
      · omega
    · refine At.exit (At.thenExit (At.thenExit (At.inHit ?_)))
      refine At.inNorm ?_
      refine At.norm (hk_7 ?_)
      refine At.region ?_
      refine op_move (nxlf rfl) rfl rfl ?_
      refine op_addI (nxlf rfl) rfl rfl (by omega) (by omega) rfl ?_
      refine op_assign (nxlf rfl) rfl rfl ?_
      refine At.opsNil ?_
      refine At.norm ?_
      refine At.back ?_ (.refl _) ⟨i + 1, NI, hs, rfl, rfl, rfl, by omega, hh, hhl, hhf⟩ ?_
      · exact .cons (by first | exact lkI rfl (by omega) | rfl) (.cons (by first | exact lkI rfl (by omega) | rfl) (.cons (by first | exact lkI rfl (by omega) | rfl) .nil))
      · omega
  · refine At.exit (At.thenExit (At.thenExit (At.inHit ?_)))
    refine At.norm (hk_3 ?_)
    refine At.seq fun K13 hk_13 => ?_
    refine At.region ?_
    refine op_move (nxlf rfl) rfl rfl ?_
    refine op_assign (nxlf rfl) rfl rfl ?_
    refine At.opsNil ?_
    refine At.norm (hk_13 ?_)
    refine At.ret (?_)
    refine At.sub (L' := [R]) (.cons _ (.cons _ (.cons _ (.cons _ (.cons _ (.cons_cons _ (.slnil))))))) ?_
    refine At.ret1 (L1 := []) rfl (.tmp rfl .nil) (.refl _) (.refl _) ?_
    exact ⟨rfl, rfl⟩
end Go.Proofs.YtdplcfineaikjaaDoor
/- quarrykeep.Loan: its contracts, with what it holds as two parts of the memory. Condition: lists of at most 2^40 bytes, at most 2^30 that are lent. -/
namespace Go.Proofs.YtdplcfineaikjaaDoor
set_option linter.unusedVariables false
set_option linter.unusedSimpArgs false
open Go Go.RowKit
/-- A loan: its own memory, and what is lent. -/
def Loan (b0 : Nat) (NO NI : Heaplet) (k : Nat) : Prop := ∃ N0 NF NW NK fs, [N0, NF, NW, NK].Pairwise Apart ∧ NO = joinL [N0, NF, NW, NK] ∧ LoanO b0 N0 NF NW NK NI fs ∧ fs.length ≤ k
theorem Loan.mono {b0 k k' : Nat} {NO NI : Heaplet} (h : Loan b0 NO NI k) (hk : k ≤ k') : Loan b0 NO NI k' := by
  obtain ⟨N0, NF, NW, NK, fs, h1, h2, h3, h4⟩ := h
  exact ⟨N0, NF, NW, NK, fs, h1, h2, h3, Nat.le_trans h4 hk⟩
theorem alone (N : Heaplet) : [N, nilH, nilH, nilH].Pairwise Apart ∧ N = joinL [N, nilH, nilH, nilH] := by
  refine ⟨?_, ?_⟩
  · simp only [List.pairwise_cons, List.mem_cons, List.not_mem_nil, or_false]
    refine ⟨fun M hM k => ?_, fun M hM k => .inl rfl, fun M hM k => .inl rfl, ?_⟩
    · rcases hM with rfl | rfl | rfl <;> exact .inr rfl
    · exact ⟨fun M hM => hM.elim, .nil⟩
  · funext k
    simp only [joinL, join2]
    cases N k <;> rfl
theorem Loan.start {b0 : Nat} {N : Heaplet} {e : TypeId} (h : Blk N b0 e [.slice none 0 0, .slice none 0 0]) : Loan b0 N nilH 0 := by
  obtain ⟨h1, h2⟩ := alone N
  exact ⟨N, nilH, nilH, nilH, [], h1, h2, ⟨e, none, 0, none, 0, [], [], h, Row.nil _ _ _, Row.nil _ _ _, Bag.nil _ _, Bags.nil _⟩, Nat.le_refl _⟩
theorem Fn.drop1 {P : Program} {f : FuncId} {args : Array Value} {L0 Lr : List Heaplet} {x : Value} {A : Heaplet} (h : Fn P f args L0 Lr (fun v L => v = x ∧ L = [A])) : Fn P f args L0 Lr (fun v L => v = x ∧ L = []) := fun E w R hw hr =>
  (h E w R hw hr).mono fun _ _ ⟨v, L1, he, ⟨hv, hL⟩, hh⟩ => ⟨v, [], he, ⟨hv, rfl⟩, by subst hL; exact hh.drop (List.sublist_cons_self ..)⟩
theorem LoanBytes_f {b0 k : Nat} {NO NI N : Heaplet} {ao : Option Addr} {n cap : Nat} {l : List UInt8} (h : Loan b0 NO NI k) (hs : RSl N 1 ao n cap (u8s l)) (hn : n ≤ 1099511627776) (hk : k ≤ 1073741824) :
    Fn Tryd.prog 22 #[.pointer (some ⟨b0, 0, none⟩), .slice ao n cap] [NO, NI] [N] (fun v L => ∃ NO' NI' p c, v = .slice p n c ∧ L = [NO', NI'] ∧ Loan b0 NO' NI' (k + 1) ∧ NI.le NI' ∧ RSl NI' 1 p n c (u8s l)) := by
  obtain ⟨N0, NF, NW, NK, fs, h1, rfl, h3, h4⟩ := h
  refine Fn.pack (As := [N0, NF, NW, NK]) (L0 := [NI]) h1 (LoanBytes_o h3 hs hn (by omega)) ?_
  rintro v L ⟨N0', NF', NW', M1, M2, p, c, rfl, rfl, ha, hL, hr⟩
  exact ⟨[N0', NF', NW', join2 M2 NK], [join2 M1 NI], rfl, fun hp => ⟨_, _, p, c, rfl, rfl, ⟨N0', NF', NW', _, _, hp, rfl, hL, by simp; omega⟩, join2_right ha, hr.le join2_left⟩⟩
theorem LoanBack_f {b0 k : Nat} {NO NI : Heaplet} (h : Loan b0 NO NI k) : Fn Tryd.prog 23 #[.pointer (some ⟨b0, 0, none⟩)] [NO, NI] [] (fun v L => v = .bool true ∧ L = []) := by
  obtain ⟨N0, NF, NW, NK, fs, h1, rfl, h3, h4⟩ := h
  refine Fn.drop1 (A := nilH) (Fn.pack (As := [N0, NF, NW, NK]) (L0 := [NI]) h1 (LoanBack_o h3) ?_)
  rintro v L ⟨rfl, rfl⟩
  exact ⟨[], [], rfl, fun _ => ⟨rfl, rfl⟩⟩
end Go.Proofs.YtdplcfineaikjaaDoor
