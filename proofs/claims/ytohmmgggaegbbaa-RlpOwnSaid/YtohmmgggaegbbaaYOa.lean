/- quarrykeep.Loan: lists of bytes that are handed in. Condition: lists of at most 2^40 bytes, at most 2^30 of them. -/
import Derived.Test.YtohmmgggaegbbaaYA9
import Derived.Test.YtohmmgggaegbbaaYA1
import Derived.Test.YtohmmgggaegbbaaY2
import Derived.Test.YtohmmgggaegbbaaYT3
namespace Go.Proofs.Ytohmmgggaegbbaa
set_option linter.unusedVariables false
set_option linter.unusedSimpArgs false
open Go Go.RowKit
theorem u8s_append (a b : List UInt8) : u8s (a ++ b) = u8s a ++ u8s b := by simp [u8s]
def marks : List UInt8 := [77, 78, 79, 80, 81]
/-- The loan's parts: its struct, its two lists, the copies; and what is lent. -/
def LoanO (b0 : Nat) (N0 NF NW NK NI : Heaplet) (fs : List (List UInt8)) : Prop :=
  ∃ e0 pf cf pw cw vf vw, Blk N0 b0 e0 [.slice pf fs.length cf, .slice pw fs.length cw] ∧ Row NF 22 1 pf fs.length cf vf ∧ Row NW 22 1 pw fs.length cw vw ∧ Bag 5 NI vf fs ∧ Bags NK vw fs
set_option maxRecDepth 100000 in
theorem LoanBytes_o {b0 : Nat} {N0 NF NW NK NI N : Heaplet} {fs : List (List UInt8)} {ao : Option Addr} {n cap : Nat} {l : List UInt8} (h : LoanO b0 N0 NF NW NK NI fs) (hs : RSl N 1 ao n cap (u8s l)) (hn : n ≤ 1099511627776) (hk : fs.length ≤ 1073741824) :
    Fn Try.prog 26 #[.pointer (some ⟨b0, 0, none⟩), .slice ao n cap] [N0, NF, NW, NK, NI] [N] (fun v L => ∃ N0' NF' NW' M1 M2 p c, v = .slice p n c ∧ L = [N0', NF', NW', join2 M2 NK, join2 M1 NI] ∧ Apart M1 NI ∧ LoanO b0 N0' NF' NW' (join2 M2 NK) (join2 M1 NI) (fs ++ [l ++ marks]) ∧ RSl M1 1 p n c (u8s l)) := by
  obtain ⟨e0, pf, cf, pw, cw, vf, vw, B0, rF, rW, hI, hK⟩ := h
  have hlen := hs.len8
  have hcap := hs.cap63
  have hcf := rF.rsl.cap63
  have hcw := rW.rsl.cap63
  have hml : (l ++ marks).length = 0 + n + 5 := by rw [List.length_append, hlen, Nat.zero_add]; rfl
  refine Fn.enter (vs := [.pointer (some ⟨b0, 0, none⟩), .slice ao n cap]) Try.func26 rfl rfl rfl ?_
  intro E R hR
  have hs := hs.le (hR N (by simp))
  change At _ _ E [N0, NF, NW, NK, NI, R] _
  refine At.seq fun K1 hk_1 => ?_
  refine At.region ?_
  refine op_assign (nxlf rfl) rfl rfl ?_
  refine At.opsNil ?_
  refine At.norm (hk_1 ?_)
  refine At.seq fun K2 hk_2 => ?_
  refine At.region ?_
  refine op_lit (nxla rfl) Try.underlying22 ze5 sz5 .nil rfl rfl (by simp [Value.cells]) rfl rfl rfl (fun N6 a6 r6 => ?_)
  simp only [flatV, List.flatMap_cons, List.flatMap_nil, Value.cells, List.append_nil, List.cons_append, List.nil_append] at r6
  have s6 := r6.rsl
  refine op_move (nxlf rfl) rfl rfl ?_
  refine op_append (nxl rfl) Try.underlying22 Try.underlying22 te5 rfl rfl r6 (by assumption) (by first | exact mem0 | exact mem1 | exact mem2 | exact mem3 | exact mem4 | exact mem5 | exact mem6 | exact mem7 | exact mem8 | exact mem9) (by first | exact one_u8s _ | exact one_u64s _ | exact one_u32s _ | (intro u hu; simp at hu; subst hu; rfl)) (by omega) (by omega) sel0 rfl (fun N8 a8 p8 r8 => ?_)
  have s8 := r8.rsl
  refine op_lit (nxla rfl) Try.underlying22 ze5 sz5 (.cons rfl (.cons rfl (.cons rfl (.cons rfl (.cons rfl .nil))))) rfl rfl (by simp [Value.cells]) rfl rfl rfl (fun N9 a9 r9 => ?_)
  simp only [flatV, List.flatMap_cons, List.flatMap_nil, Value.cells, List.append_nil, List.cons_append, List.nil_append] at r9
  have s9 := r9.rsl
  change Row N9 _ 1 a9 5 5 (u8s marks) at r9
  have s9 := r9.rsl
  refine op_append (nxl rfl) Try.underlying22 Try.underlying22 te5 rfl rfl r8 s9 (by first | exact mem0 | exact mem1 | exact mem2 | exact mem3 | exact mem4 | exact mem5 | exact mem6 | exact mem7 | exact mem8 | exact mem9) (by first | exact one_u8s _ | exact one_u64s _ | exact one_u32s _ | (intro u hu; simp at hu; subst hu; rfl)) (by omega) (by omega) sel1 rfl (fun N10 a10 p10 r10 => ?_)
  have s10 := r10.rsl
  rw [List.nil_append, ← u8s_append, ← hml] at r10
  have s10 := r10.rsl
  have hc10 := s10.cap63
  rw [← hml]
  refine op_assign (nxlf rfl) rfl rfl ?_
  refine At.opsNil ?_
  refine At.norm (hk_2 ?_)
  refine At.seq fun K3 hk_3 => ?_
  refine At.region ?_
  refine op_move (nxlf rfl) rfl rfl ?_
  refine op_move (nxlf rfl) rfl rfl ?_
  refine op_nilChk (nxlf rfl) rfl rfl ?_
  refine op_fieldAddr (nxlf rfl) fl57_0 rfl rfl ?_
  refine op_loadB (nxlf rfl) sc55 rfl B0 (by first | rfl) mem2 rfl ?_
  refine op_move (nxlf rfl) rfl rfl ?_
  refine op_lit (nxla rfl) Try.underlying55 ze22 sz22 (.cons rfl .nil) rfl rfl (by simp [Value.cells]) rfl rfl rfl (fun N17 a17 r17 => ?_)
  simp only [flatV, List.flatMap_cons, List.flatMap_nil, Value.cells, List.append_nil, List.cons_append, List.nil_append] at r17
  have s17 := r17.rsl
  refine op_append (nxl rfl) Try.underlying55 Try.underlying55 te22 rfl rfl rF s17 (by first | exact mem0 | exact mem1 | exact mem2 | exact mem3 | exact mem4 | exact mem5 | exact mem6 | exact mem7 | exact mem8 | exact mem9) (by first | exact one_u8s _ | exact one_u64s _ | exact one_u32s _ | (intro u hu; simp at hu; subst hu; rfl)) (by omega) (by omega) sel4 rfl (fun N18 a18 p18 r18 => ?_)
  have s18 := r18.rsl
  refine op_nilChk (nxlf rfl) rfl rfl ?_
  refine op_fieldAddr (nxlf rfl) fl57_0 rfl rfl ?_
  refine op_store (nxl rfl) sz55 rfl rfl rfl rfl rfl B0 (by simp) sel4 (fun N0 B0 => ?_)
  simp only [setL, List.set] at B0
  refine At.opsNil ?_
  refine At.norm (hk_3 ?_)
  refine At.seq fun K4 hk_4 => ?_
  refine At.perm sel8 ?_
  refine At.perm sel4 ?_
  refine At.perm sel2 ?_
  refine At.perm sel8 ?_
  refine At.perm sel8 ?_
  refine At.perm sel8 ?_
  refine At.perm sel8 ?_
  refine At.perm sel8 ?_
  refine At.perm sel8 ?_
  refine At.drawnS [N0, N10, R] [9,12] [0,1,6] [0,1,2,3,4,6,5,7,8,9,10,11,12] (by kernel_rfl) (by kernel_rfl) (.cons _ (.cons _ (.cons _ (.cons _ (.cons _ (.cons _ (.refl _))))))) ?_
  refine op_move (nxsf rfl rfl rfl) rfl rfl ?_
  refine op_move (nxsf rfl rfl rfl) rfl rfl ?_
  refine op_nilChk (nxsf rfl rfl rfl) rfl rfl ?_
  refine op_fieldAddr (nxsf rfl rfl rfl) fl57_1 rfl rfl ?_
  refine op_loadB (nxsf rfl rfl rfl) sc55 rfl B0 (by first | rfl) mem0 rfl ?_
  refine op_move (nxsf rfl rfl rfl) rfl rfl ?_
  refine op_lit (Nx.agree (nxsm rfl rfl rfl)) Try.underlying22 ze5 sz5 .nil rfl rfl (by simp [Value.cells]) rfl rfl rfl (fun N26 a26 r26 => ?_)
  simp only [flatV, List.flatMap_cons, List.flatMap_nil, Value.cells, List.append_nil, List.cons_append, List.nil_append] at r26
  have s26 := r26.rsl
  refine At.moreS (Lst := [N0, N10, R]) (Lst' := [N0, N10, R]) (.refl _) (.cons _ (.cons _ (.cons _ (.cons _ (.cons _ (.cons _ (.cons _ (.refl _)))))))) ?_
  refine op_append (nxsm rfl rfl rfl) Try.underlying22 Try.underlying22 te5 rfl rfl r26 s10 (by first | exact mem0 | exact mem1 | exact mem2 | exact mem3 | exact mem4 | exact mem5 | exact mem6 | exact mem7 | exact mem8 | exact mem9) (by first | exact one_u8s _ | exact one_u64s _ | exact one_u32s _ | (intro u hu; simp at hu; subst hu; rfl)) (by omega) (by omega) sel0 rfl (fun N28 a28 p28 r28 => ?_)
  have s28 := r28.rsl
  refine At.perm sel9 ?_
  refine At.perm sel9 ?_
  refine At.perm sel9 ?_
  refine At.perm sel3 ?_
  refine At.perm sel9 ?_
  refine At.perm sel9 ?_
  refine At.perm sel9 ?_
  refine At.perm sel9 ?_
  refine At.perm sel9 ?_
  refine At.perm sel9 ?_
  refine At.moreS (Lst := [N0, N10, R]) (Lst' := [N28, N0, N10, R]) (.cons _ (.refl _)) (.cons _ (.cons _ (.cons _ (.cons _ (.cons _ (.cons _ (.refl _))))))) ?_
  rw [List.nil_append, Nat.zero_add] at r28
  have s28 := r28.rsl
  rw [Nat.zero_add]
  refine op_lit (Nx.agree (nxsm rfl rfl rfl)) Try.underlying55 ze22 sz22 (.cons rfl .nil) rfl rfl (by simp [Value.cells]) rfl rfl rfl (fun N29 a29 r29 => ?_)
  simp only [flatV, List.flatMap_cons, List.flatMap_nil, Value.cells, List.append_nil, List.cons_append, List.nil_append] at r29
  have s29 := r29.rsl
  refine At.perm sel10 ?_
  refine At.perm sel10 ?_
  refine At.perm sel10 ?_
  refine At.perm sel10 ?_
  refine At.perm sel4 ?_
  refine At.perm sel10 ?_
  refine At.perm sel10 ?_
  refine At.perm sel10 ?_
  refine At.perm sel10 ?_
  refine At.perm sel10 ?_
  refine At.perm sel10 ?_
  refine At.moreS (Lst := [N28, N0, N10, R]) (Lst' := [N29, N28, N0, N10, R]) (.cons _ (.refl _)) (.cons _ (.cons _ (.cons _ (.cons _ (.cons _ (.cons _ (.refl _))))))) ?_
  refine op_append (nxss rfl rfl rfl rfl) Try.underlying55 Try.underlying55 te22 rfl rfl rW s29 (by first | exact mem0 | exact mem1 | exact mem2 | exact mem3 | exact mem4 | exact mem5 | exact mem6 | exact mem7 | exact mem8 | exact mem9) (by first | exact one_u8s _ | exact one_u64s _ | exact one_u32s _ | (intro u hu; simp at hu; subst hu; rfl)) (by omega) (by omega) sel3 rfl (fun N30 a30 p30 r30 => ?_)
  have s30 := r30.rsl
  refine At.anyS (.refl _) ?_
  refine op_nilChk (nxsf rfl rfl rfl) rfl rfl ?_
  refine op_fieldAddr (nxsf rfl rfl rfl) fl57_1 rfl rfl ?_
  refine op_store (nxsl rfl rfl rfl rfl) sz55 rfl rfl rfl rfl rfl B0 (by simp) sel8 (fun N0 B0 => ?_)
  simp only [setL, List.set] at B0
  refine At.sNil ?_
  refine At.norm (hk_4 ?_)
  refine At.seq fun K5 hk_5 => ?_
  refine At.region ?_
  refine op_move (nxlf rfl) rfl rfl ?_
  refine op_move (nxlf rfl) rfl rfl ?_
  refine op_lenS (nxlf rfl) se22 rfl rfl ?_
  refine op_slice0 (nxlf rfl) se22 rfl (.some rfl (show _ = (((n : Nat)) : Int) from by omega)) .none (by omega) (by omega) (by simp) rfl ?_
  refine op_assign (nxlf rfl) rfl rfl ?_
  refine At.opsNil ?_
  refine At.norm (hk_5 ?_)
  refine At.ret (?_)
  have s36 := s10.take8 (hi := n) (m := p10) (by omega) (by omega) (by omega)
  rw [show (l ++ marks).take n = l from by rw [← hlen]; exact List.take_left] at s36
  refine At.perm sel10 ?_
  refine At.perm sel9 ?_
  refine At.perm sel9 ?_
  refine At.perm sel8 ?_
  refine At.perm sel8 ?_
  refine At.perm sel8 ?_
  refine At.perm sel8 ?_
  refine At.perm sel8 ?_
  refine At.perm sel8 ?_
  refine At.perm sel9 ?_
  refine At.perm sel10 ?_
  refine At.merge (fun h10 => ?_)
  refine At.perm sel9 ?_
  refine At.perm sel8 ?_
  refine At.perm sel7 ?_
  refine At.perm sel7 ?_
  refine At.perm sel7 ?_
  refine At.perm sel7 ?_
  refine At.perm sel7 ?_
  refine At.perm sel7 ?_
  refine At.perm sel8 ?_
  refine At.perm sel9 ?_
  refine At.merge (fun h28 => ?_)
  refine At.sub (L' := [(join2 N28 NK), (join2 N10 NI), N0, N30, N18, R]) (.cons_cons _ (.cons_cons _ (.cons_cons _ (.cons_cons _ (.cons_cons _ (.cons _ (.cons _ (.cons _ (.cons_cons _ (.slnil)))))))))) ?_
  refine At.perm sel5 ?_
  refine At.perm sel2 ?_
  refine At.perm sel2 ?_
  refine At.perm sel4 ?_
  refine At.perm sel5 ?_
  refine At.perm sel5 ?_
  refine At.ret1 (L1 := [N0, N18, N30, (join2 N28 NK), (join2 N10 NI)]) rfl (.tmp rfl .nil) (.refl _) (.refl _) ?_
  refine ⟨N0, N18, N30, N10, N28, a10, p10, rfl, rfl, h10, ⟨e0, a18, p18, a30, p30, _, _, ?_, ?_, ?_, hI.snoc r10 h10, hK.snoc s28 h28⟩, s36⟩
  · simpa using B0
  · simpa using r18
  · simpa using r30
end Go.Proofs.Ytohmmgggaegbbaa
