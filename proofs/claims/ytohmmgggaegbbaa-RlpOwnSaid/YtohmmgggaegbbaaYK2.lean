/- quarrykeep.Twin, and quarrylaw05's nested, Twin, cut. No condition. -/
import Derived.Test.YtohmmgggaegbbaaYE5
import Derived.Test.YtohmmgggaegbbaaYD1
namespace Go.Proofs.Ytohmmgggaegbbaa
set_option linter.unusedVariables false
set_option linter.unusedSimpArgs false
open Go Go.RowKit
theorem KTwin_f {N : Heaplet} {ao : Option Addr} {n cap : Nat} {l : List UInt8} (h : RSl N 1 ao n cap (u8s l)) (m : Nat) (q : Int) (hq : q = (m : Int)) (hm : m ≤ 140737488351232) :
    Fn Try.prog 16 #[.slice ao n cap, .int .i64 q] [] [N] (fun v L => ∃ M a c, v = .slice a (l.take m).length c ∧ L = [M] ∧ Row M 5 1 a (l.take m).length c (u8s (l.take m))) := by
  have hlen := h.len8
  have hcap := h.cap63
  refine Fn.enter (vs := [.slice ao n cap, .int .i64 q]) Try.func16 rfl rfl rfl ?_
  intro E R hR
  have h := h.le (hR N (by simp))
  change At _ _ E [R] _
  refine At.seq fun K1 hk_1 => ?_
  refine At.region ?_
  refine op_assign (nxlf rfl) rfl rfl ?_
  refine At.opsNil ?_
  refine At.norm (hk_1 ?_)
  refine At.seq fun K2 hk_2 => ?_
  refine At.seq fun K3 hk_3 => ?_
  refine At.region ?_
  refine op_move (nxlf rfl) rfl rfl ?_
  refine op_lenS (nxlf rfl) se22 rfl rfl ?_
  refine op_move (nxlf rfl) rfl rfl ?_
  refine op_gtr (nxlf rfl) rfl rfl rfl ?_
  refine At.opsNil ?_
  refine At.norm (hk_3 ?_)
  refine At.condP rfl (fun c8 => ?_) (fun c8 => ?_)
  · refine At.region ?_
    refine op_move (nxlf rfl) rfl rfl ?_
    refine op_move (nxlf rfl) rfl rfl ?_
    refine op_slice0 (nxlf rfl) se22 rfl (.some rfl (show _ = (((m : Nat)) : Int) from by omega)) .none (by omega) (by omega) (by simp) rfl ?_
    have s11 := h.take8 (hi := m) (m := cap) (by omega) (by omega) (by omega)
    refine op_assign (nxlf rfl) rfl rfl ?_
    refine At.opsNil ?_
    refine At.norm (hk_2 ?_)
    refine At.seq fun K4 hk_4 => ?_
    refine At.region ?_
    refine op_lit (nxla rfl) Try.underlying22 ze5 sz5 .nil rfl rfl (by simp [Value.cells]) rfl rfl rfl (fun N12 a12 r12 => ?_)
    simp only [flatV, List.flatMap_cons, List.flatMap_nil, Value.cells, List.append_nil, List.cons_append, List.nil_append] at r12
    have s12 := r12.rsl
    refine op_move (nxlf rfl) rfl rfl ?_
    refine op_append (nxl rfl) Try.underlying22 Try.underlying22 te5 rfl rfl r12 (by assumption) (by first | exact mem0 | exact mem1 | exact mem2 | exact mem3 | exact mem4 | exact mem5 | exact mem6 | exact mem7 | exact mem8 | exact mem9) (by first | exact one_u8s _ | exact one_u64s _ | exact one_u32s _ | (intro u hu; simp at hu; subst hu; rfl)) (by omega) (by omega) sel0 rfl (fun N14 a14 p14 r14 => ?_)
    have s14 := r14.rsl
    refine op_assign (nxlf rfl) rfl rfl ?_
    refine At.opsNil ?_
    refine At.norm (hk_4 ?_)
    refine At.ret (?_)
    refine At.ret1 (L1 := [N14]) rfl (.tmp rfl .nil) (.refl _) (.refl _) ?_
    rw [List.nil_append, Nat.zero_add] at r14
    exact ⟨N14, a14, p14, by rw [List.length_take, hlen, Nat.min_eq_left (by omega), Nat.zero_add], rfl, by rw [List.length_take, hlen, Nat.min_eq_left (by omega)]; exact r14⟩
  · refine At.skip ?_
    refine At.norm (hk_2 ?_)
    refine At.seq fun K5 hk_5 => ?_
    refine At.region ?_
    refine op_lit (nxla rfl) Try.underlying22 ze5 sz5 .nil rfl rfl (by simp [Value.cells]) rfl rfl rfl (fun N12 a12 r12 => ?_)
    simp only [flatV, List.flatMap_cons, List.flatMap_nil, Value.cells, List.append_nil, List.cons_append, List.nil_append] at r12
    have s12 := r12.rsl
    refine op_move (nxlf rfl) rfl rfl ?_
    refine op_append (nxl rfl) Try.underlying22 Try.underlying22 te5 rfl rfl r12 (by assumption) (by first | exact mem0 | exact mem1 | exact mem2 | exact mem3 | exact mem4 | exact mem5 | exact mem6 | exact mem7 | exact mem8 | exact mem9) (by first | exact one_u8s _ | exact one_u64s _ | exact one_u32s _ | (intro u hu; simp at hu; subst hu; rfl)) (by omega) (by omega) sel0 rfl (fun N14 a14 p14 r14 => ?_)
    have s14 := r14.rsl
    refine op_assign (nxlf rfl) rfl rfl ?_
    refine At.opsNil ?_
    refine At.norm (hk_5 ?_)
    refine At.ret (?_)
    refine At.ret1 (L1 := [N14]) rfl (.tmp rfl .nil) (.refl _) (.refl _) ?_
    rw [List.nil_append, Nat.zero_add] at r14
    have e : l.take m = l := List.take_of_length_le (by omega)
    exact ⟨N14, a14, p14, by rw [e, hlen, Nat.zero_add], rfl, by rw [e, hlen]; exact r14⟩
/-- So many lists around an item. -/
def nestN : Nat → It → It
  | 0, t => t
  | k + 1, t => .mk true [] [nestN k t]
theorem nested_f {N : Heaplet} {t : It} {x : IV} (h : ItN N t x) (n : Nat) (hn : n ≤ 1000000) :
    Fn Try.prog 11 #[.agg #[.bool x.l, .slice x.ab x.nb x.cb, .slice x.ai x.ni x.ci], .int .i64 (n : Int)] [N] [] (fun v L => ∃ M, ∃ y : IV, v = .agg #[.bool y.l, .slice y.ab y.nb y.cb, .slice y.ai y.ni y.ci] ∧ L = [M] ∧ ItN M (nestN n t) y) := by
  refine Fn.enter (vs := [.agg #[.bool x.l, .slice x.ab x.nb x.cb, .slice x.ai x.ni x.ci], .int .i64 (n : Int)]) Try.func11 rfl rfl rfl ?_
  intro E R hR
  change At _ _ E [N, R] _
  refine At.seq fun K1 hk_1 => ?_
  refine At.region ?_
  refine op_box (nxla rfl) rfl rfl rfl (fun N2 b2 B2 => ?_)
  refine op_alloc (nxla rfl) ze25 rfl (fun N4 b4 B4 => ?_)
  change Blk N4 b4 _ [.bool false, .slice none 0 0, .slice none 0 0] at B4
  refine At.opsNil ?_
  refine At.norm (hk_1 ?_)
  refine At.seq fun K2 hk_2 => ?_
  refine At.block ?_
  refine At.loop (fun fr_ hp_ ms_ => ∃ (j k : Nat) (y : IV) (N2 Nt : Heaplet), fr_ = [(1, .int .i64 (k : Int)), (2, .pointer (some ⟨b2, 0, none⟩)), (4, .pointer (some ⟨b4, 0, none⟩))] ∧ hp_ = [N4, N2, Nt, R] ∧ k = ms_ ∧ (j + k = n) ∧ (Blk N2 b2 25 [.bool y.l, .slice y.ab y.nb y.cb, .slice y.ai y.ni y.ci]) ∧ (ItN Nt (nestN j t) y)) ?_ (.refl _) ⟨0, n, x, N2, N, rfl, rfl, rfl, by omega, B2, h⟩ ?_
  · exact .cons (by first | exact lkI rfl (by omega) | rfl) (.cons (by first | exact lkI rfl (by omega) | rfl) (.cons (by first | exact lkI rfl (by omega) | rfl) .nil))
  rintro _ _ _ ⟨j, k, y, N2, Nt, rfl, rfl, rfl, hjk, B2, hy⟩
  refine At.seq fun K3 hk_3 => ?_
  refine At.seq fun K4 hk_4 => ?_
  refine At.region ?_
  refine op_move (nxlf rfl) rfl rfl ?_
  refine op_gtr (nxlf rfl) rfl rfl rfl ?_
  refine At.opsNil ?_
  refine At.norm (hk_4 ?_)
  refine At.condP rfl (fun c6 => ?_) (fun c6 => ?_)
  · refine At.skip ?_
    refine At.norm (hk_3 ?_)
    refine At.seq fun K5 hk_5 => ?_
    refine At.block ?_
    refine At.region ?_
    refine op_loadAggB (ds := [_, _, _]) (nxlf rfl) ag25 rfl B2 rfl rfl mem1 rfl ?_
    refine op_lit (nxla rfl) Try.underlying23 ze25 sz25 (.cons rfl .nil) rfl rfl (by simp [Value.cells]) rfl rfl rfl (fun N10 a10 r10 => ?_)
    simp only [flatV, List.flatMap_cons, List.flatMap_nil, Value.cells, List.append_nil, List.cons_append, List.nil_append] at r10
    have s10 := r10.rsl
    refine op_build (out := [_, .slice none 0 0, _]) (nxlf rfl) ze25 pl25 (.cons rfl (.cons rfl .nil)) rfl rfl ?_
    refine op_store (nxl rfl) sz25 rfl rfl rfl rfl rfl B2 (by simp) sel2 (fun N2 B2 => ?_)
    simp only [setL, List.set] at B2
    refine At.opsNil ?_
    refine At.inNorm ?_
    refine At.norm (hk_5 ?_)
    refine At.region ?_
    refine op_move (nxlf rfl) rfl rfl ?_
    refine op_subI (nxlf rfl) rfl rfl (by omega) (by omega) rfl ?_
    refine op_assign (nxlf rfl) rfl rfl ?_
    refine At.opsNil ?_
    refine At.norm ?_
    refine At.perm sel4 ?_
    refine At.perm sel3 ?_
    refine At.perm sel2 ?_
    refine At.perm sel4 ?_
    refine At.perm sel4 ?_
    refine At.merge (fun hap => ?_)
    refine At.perm sel3 ?_
    refine At.perm sel1 ?_
    refine At.perm sel2 ?_
    refine At.perm sel3 ?_
    refine At.back ?_ (.refl _) ⟨j + 1, k - 1, ⟨true, none, 0, 0, a10, 1, 1⟩, N2, join2 N10 Nt, rfl, rfl, rfl, by omega, B2, ItN.mk (RSl.nil _ _) (xs := [y]) (s10.le join2_left) ⟨y, [], rfl, hy.le (join2_right hap), rfl⟩⟩ ?_
    · exact .cons (by first | exact lkI rfl (by omega) | rfl) (.cons (by first | exact lkI rfl (by omega) | rfl) (.cons (by first | exact lkI rfl (by omega) | rfl) .nil))
    · omega
  · refine At.exit (At.thenExit (At.thenExit (At.inHit ?_)))
    refine At.norm (hk_2 ?_)
    refine At.seq fun K6 hk_6 => ?_
    refine At.region ?_
    refine op_loadAggB (ds := [_, _, _]) (nxlf rfl) ag25 rfl B2 rfl rfl mem1 rfl ?_
    refine op_store (nxl rfl) sz25 rfl rfl rfl rfl rfl B4 (by simp) sel0 (fun N4 B4 => ?_)
    simp only [setL, List.set] at B4
    refine At.opsNil ?_
    refine At.norm (hk_6 ?_)
    refine At.ret (?_)
    refine At.sub (L' := [N4, Nt, R]) (.cons_cons _ (.cons _ (.cons_cons _ (.cons_cons _ (.slnil))))) ?_
    refine At.ret1 (L1 := [Nt]) rfl (.cell rfl (res_agg (ds := [_, _, _]) ag25 B4 rfl rfl mem0) .nil) (.cons _ (.refl _)) (.refl _) ?_
    obtain rfl : j = n := by omega
    exact ⟨Nt, y, rfl, rfl, hy⟩
end Go.Proofs.Ytohmmgggaegbbaa
