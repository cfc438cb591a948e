/- quarrylaw05.wakes holds. No condition. -/
import Derived.Test.YtohmmgggaegbbaaYW1
namespace Go.Proofs.Ytohmmgggaegbbaa
set_option linter.unusedVariables false
set_option linter.unusedSimpArgs false
open Go Go.RowKit
def wakeT : It := .mk true [] [.mk true [] [], .mk false [97] []]
theorem wakeT_form : wakeT.form = [194, 192, 97] := by decide
theorem wakeT_depth : wakeT.depth = 2 := by decide
theorem wakeT_dec : decodeF [194, 192, 97] = .ok wakeT := by kernel_rfl
theorem Encode_ok {N : Heaplet} {t : It} {x : IV} (h : ItN N t x) (hlen : t.form.length ≤ 1099511627776) (hd : t.depth ≤ 1024) : Fn Try.prog 13 #[.agg #[.bool x.l, .slice x.ab x.nb x.cb, .slice x.ai x.ni x.ci]] [] [N] (fun v L => ∃ M a cap, v = .tuple #[.slice a t.form.length cap, .int .i64 0] ∧ L = [M] ∧ Row M 5 1 a t.form.length cap (u8s t.form)) :=
  (Encode_f h hlen).mono fun v L hp => by
    rcases hp with ⟨M, a, cap, h1, h2, h3, _⟩ | ⟨_, _, h3⟩
    · exact ⟨M, a, cap, h1, h2, h3⟩
    · exact absurd (by omega) h3
theorem Decode_ok {N : Heaplet} {ao : Option Addr} {n cap : Nat} {b : List UInt8} {t : It} (h : RSl N 1 ao n cap (u8s b)) (hn : n ≤ 1099511627776) (hd : decodeF b = .ok t) : Fn Try.prog 17 #[.slice ao n cap] [] [N] (fun v L => ∃ M, ∃ x : IV, v = .tuple #[.agg #[.bool x.l, .slice x.ab x.nb x.cb, .slice x.ai x.ni x.ci], .int .i64 0] ∧ L = [M] ∧ ItN M t x) :=
  (Decode_f h hn).mono fun v L hp => by
    rcases hp with ⟨t', M, x, h1, h2, h3, h4⟩ | ⟨e, h1, _⟩
    · rw [hd] at h1; cases h1; exact ⟨M, x, h2, h3, h4⟩
    · rw [hd] at h1; cases h1
theorem wakeT_open {M : Heaplet} {x : IV} (h : ItN M wakeT x) : ∃ ab nb cb ai ci ab1 nb1 cb1 ai1 ni1 ci1 ab2 cb2 ai2 ni2 ci2, x = ⟨true, ab, nb, cb, ai, 2, ci⟩ ∧ RSl M 3 ai 2 ci (cellsI [⟨true, ab1, nb1, cb1, ai1, ni1, ci1⟩, ⟨false, ab2, 1, cb2, ai2, ni2, ci2⟩]) ∧ RSl M 1 ab2 1 cb2 (u8s [97]) := by
  obtain ⟨l, ab, nb, cb, ai, ni, ci⟩ := x
  simp only [wakeT, ItN] at h
  obtain ⟨rfl, _, xs, h1, h2⟩ := h
  simp only [ItsN, ItN] at h2
  obtain ⟨⟨l1, ab1, nb1, cb1, ai1, ni1, ci1⟩, r, rfl, ⟨rfl, _⟩, ⟨l2, ab2, nb2, cb2, ai2, ni2, ci2⟩, r2, rfl, ⟨rfl, h3, _⟩, rfl⟩ := h2
  have e1 := h3.len8
  have e2 := h1.1
  simp only [length_cellsI, List.length_cons, List.length_nil] at e1 e2
  obtain rfl : ni = 2 := by omega
  subst e1
  exact ⟨ab, nb, cb, ai, ci, ab1, nb1, cb1, ai1, ni1, ci1, ab2, cb2, ai2, ni2, ci2, rfl, h1, h3⟩
set_option maxRecDepth 100000 in
theorem wakes_f : Fn Try.prog 15 #[] [] [] (fun v L => v = .bool true ∧ L = []) := by
  refine Fn.enter (vs := []) Try.func15 rfl rfl rfl ?_
  intro E R hR
  change At _ _ E [R] _
  refine At.seq fun K1 hk_1 => ?_
  refine At.region ?_
  refine op_assign (nxlf rfl) rfl rfl ?_
  refine At.opsNil ?_
  refine At.norm (hk_1 ?_)
  refine At.seq fun K2 hk_2 => ?_
  refine At.region ?_
  refine op_build (out := [_, .slice none 0 0, .slice none 0 0]) (nxlf rfl) ze25 pl25 (.cons rfl .nil) rfl rfl ?_
  refine op_lit (nxla rfl) Try.underlying22 ze5 sz5 (.cons rfl .nil) rfl rfl (by simp [Value.cells]) rfl rfl rfl (fun N7 a7 r7 => ?_)
  simp only [flatV, List.flatMap_cons, List.flatMap_nil, Value.cells, List.append_nil, List.cons_append, List.nil_append] at r7
  have s7 := r7.rsl
  refine op_convB (nxl rfl) Try.underlying22 Try.underlying5 rfl r7 (by omega) sel0 rfl (fun N7 s7 => ?_)
  refine op_build (out := [.bool false, _, .slice none 0 0]) (nxlf rfl) ze25 pl25 (.cons rfl .nil) rfl rfl ?_
  refine op_lit (nxla rfl) Try.underlying23 ze25 sz25 (.cons rfl (.cons rfl .nil)) rfl rfl (by simp [Value.cells]) rfl rfl rfl (fun N10 a10 r10 => ?_)
  simp only [flatV, List.flatMap_cons, List.flatMap_nil, Value.cells, List.append_nil, List.cons_append, List.nil_append] at r10
  have s10 := r10.rsl
  refine op_build (out := [_, .slice none 0 0, _]) (nxlf rfl) ze25 pl25 (.cons rfl (.cons rfl .nil)) rfl rfl ?_
  refine At.perm sel2 ?_
  refine At.perm sel1 ?_
  refine At.perm sel2 ?_
  refine At.mergeN (fun J J1 J2 => ?_)
  refine op_callA (nxla rfl) (.cons rfl .nil) (Encode_ok (t := wakeT) (x := ⟨true, none, 0, 0, a10, 2, 2⟩) (N := J) (ItN.mk (xs := [⟨true, none, 0, 0, none, 0, 0⟩, ⟨false, a7, 1, 1, none, 0, 0⟩]) (RSl.nil _ _) (s10.le J2) ⟨_, _, rfl, ItN.mk (xs := []) (RSl.nil _ _) (RSl.nil _ _) rfl, _, _, rfl, ItN.mk (xs := []) (s7.le J1) (RSl.nil _ _) rfl, rfl⟩) (by rw [wakeT_form]; decide) (by rw [wakeT_depth]; decide)) Try.func13 rfl rfl (by simp) rfl ?_
  rintro v12 L12 ⟨M12, a12, p12, rfl, rfl, r12⟩
  change At _ _ _ [M12, J, R] _
  rw [wakeT_form] at r12 ⊢
  have s12 := r12.rsl
  refine op_move (nxlf rfl) rfl rfl ?_
  refine op_extract (nxlf rfl) rfl rfl rfl ?_
  refine op_extract (nxlf rfl) rfl rfl rfl ?_
  refine op_assign (nxlf rfl) rfl rfl ?_
  refine op_assign (nxlf rfl) rfl rfl ?_
  refine At.opsNil ?_
  refine At.norm (hk_2 ?_)
  refine At.seq fun K3 hk_3 => ?_
  refine At.region ?_
  refine op_lit (nxla rfl) Try.underlying22 ze5 sz5 (.cons rfl (.cons rfl (.cons rfl .nil))) rfl rfl (by simp [Value.cells]) rfl rfl rfl (fun N16 a16 r16 => ?_)
  simp only [flatV, List.flatMap_cons, List.flatMap_nil, Value.cells, List.append_nil, List.cons_append, List.nil_append] at r16
  have s16 := r16.rsl
  refine op_callA (nxla rfl) (.cons rfl .nil) (Decode_ok (b := [194, 192, 97]) s16 (by decide) wakeT_dec) Try.func17 rfl rfl (by simp) rfl ?_
  rintro v17 L17 ⟨M17, x, rfl, rfl, hx⟩
  change At _ _ _ [M17, N16, M12, J, R] _
  obtain ⟨ab, nb, cb, ai, ci, ab1, nb1, cb1, ai1, ni1, ci1, ab2, cb2, ai2, ni2, ci2, rfl, hI, h97⟩ := wakeT_open hx
  have his := hI.isSome (by decide)
  dsimp only
  refine op_move (nxlf rfl) rfl rfl ?_
  refine op_extract (nxlf rfl) rfl rfl rfl ?_
  refine op_extract (nxlf rfl) rfl rfl rfl ?_
  refine op_alloc (nxla rfl) ze25 rfl (fun N3 b3 B3 => ?_)
  change Blk N3 b3 _ [.bool false, .slice none 0 0, .slice none 0 0] at B3
  refine op_store (nxl rfl) sz25 rfl rfl rfl rfl rfl B3 (by simp) sel0 (fun N3 B3 => ?_)
  simp only [setL, List.set] at B3
  refine op_assign (nxlf rfl) rfl rfl ?_
  refine At.opsNil ?_
  refine At.norm (hk_3 ?_)
  refine At.seq fun K4 hk_4 => ?_
  refine At.region ?_
  refine op_move (nxlf rfl) rfl rfl ?_
  refine op_eql (nxlf rfl) rfl rfl rfl ?_
  refine op_move (nxlf rfl) rfl rfl ?_
  refine op_move (nxgf rfl rfl rfl rfl) rfl rfl ?_
  refine op_str (nxgf rfl rfl rfl rfl) Try.underlying22 Try.underlying5 Try.underlying9 rfl (by assumption) (by first | exact mem0 | exact mem1 | exact mem2 | exact mem3 | exact mem4 | exact mem5 | exact mem6 | exact mem7 | exact mem8 | exact mem9) rfl ?_
  refine op_eqS (b := [194, 192, 97]) (nxgf rfl rfl rfl rfl) rfl rfl rfl ?_
  refine op_pickT (nxlf rfl) rfl rfl rfl ?_
  refine op_move (nxlf rfl) rfl rfl ?_
  refine op_move (nxgf rfl rfl rfl rfl) rfl rfl ?_
  refine op_eql (nxgf rfl rfl rfl rfl) rfl rfl rfl ?_
  refine op_pickT (nxlf rfl) rfl rfl rfl ?_
  refine op_move (nxlf rfl) rfl rfl ?_
  refine op_fieldAddr (nxgf rfl rfl rfl rfl) fl25_0 rfl rfl ?_
  refine op_loadB (nxgf rfl rfl rfl rfl) sc4 rfl B3 (by first | rfl) mem0 rfl ?_
  refine op_pickT (nxlf rfl) rfl rfl rfl ?_
  refine op_move (nxlf rfl) rfl rfl ?_
  refine op_fieldAddr (nxgf rfl rfl rfl rfl) fl25_2 rfl rfl ?_
  refine op_loadB (nxgf rfl rfl rfl rfl) sc23 rfl B3 (by first | rfl) mem0 rfl ?_
  refine op_lenS (nxgf rfl rfl rfl rfl) se23 rfl rfl ?_
  refine op_eql (nxgf rfl rfl rfl rfl) rfl rfl rfl ?_
  refine op_pickT (nxlf rfl) rfl rfl rfl ?_
  refine op_move (nxlf rfl) rfl rfl ?_
  refine op_fieldAddr (nxgf rfl rfl rfl rfl) fl25_2 rfl rfl ?_
  refine op_loadB (nxgf rfl rfl rfl rfl) sc23 rfl B3 (by first | rfl) mem0 rfl ?_
  refine op_idxE (nxgf rfl rfl rfl rfl) se23 rfl rfl (by assumption) (show _ = ((0 : Nat) : Int) from rfl) (by omega) rfl ?_
  refine op_fieldAddrE (nxgf rfl rfl rfl rfl) fl25_0 rfl (by first | rfl | assumption) rfl ?_
  refine op_loadE (nxgf rfl rfl rfl rfl) sc4 rfl (by assumption) (by first | exact get8 (by omega) | exact get64 (by omega) | exact get32 (by omega) | rfl) (by first | exact mem0 | exact mem1 | exact mem2 | exact mem3 | exact mem4 | exact mem5 | exact mem6 | exact mem7 | exact mem8 | exact mem9) rfl ?_
  refine op_pickT (nxlf rfl) rfl rfl rfl ?_
  refine op_move (nxlf rfl) rfl rfl ?_
  refine op_fieldAddr (nxgf rfl rfl rfl rfl) fl25_2 rfl rfl ?_
  refine op_loadB (nxgf rfl rfl rfl rfl) sc23 rfl B3 (by first | rfl) mem0 rfl ?_
  refine op_idxE (nxgf rfl rfl rfl rfl) se23 rfl rfl (by assumption) (show _ = ((1 : Nat) : Int) from rfl) (by omega) rfl ?_
  refine op_fieldAddrE (nxgf rfl rfl rfl rfl) fl25_1 rfl (by first | rfl | assumption) rfl ?_
  refine op_loadE (nxgf rfl rfl rfl rfl) sc22 rfl (by assumption) (by first | exact get8 (by omega) | exact get64 (by omega) | exact get32 (by omega) | rfl) (by first | exact mem0 | exact mem1 | exact mem2 | exact mem3 | exact mem4 | exact mem5 | exact mem6 | exact mem7 | exact mem8 | exact mem9) rfl ?_
  refine op_str (nxgf rfl rfl rfl rfl) Try.underlying22 Try.underlying5 Try.underlying9 rfl (by assumption) (by first | exact mem0 | exact mem1 | exact mem2 | exact mem3 | exact mem4 | exact mem5 | exact mem6 | exact mem7 | exact mem8 | exact mem9) rfl ?_
  refine op_eqS (b := [97]) (nxgf rfl rfl rfl rfl) rfl rfl rfl ?_
  refine op_pickT (nxlf rfl) rfl rfl rfl ?_
  refine op_assign (nxlf rfl) rfl rfl ?_
  refine At.opsNil ?_
  refine At.norm (hk_4 ?_)
  refine At.ret (?_)
  refine At.sub (L' := [R]) (.cons _ (.cons _ (.cons _ (.cons _ (.cons _ (.cons_cons _ (.slnil))))))) ?_
  refine At.ret1 (L1 := []) rfl (.tmp rfl .nil) (.refl _) (.refl _) ?_
  exact ⟨rfl, rfl⟩
end Go.Proofs.Ytohmmgggaegbbaa
