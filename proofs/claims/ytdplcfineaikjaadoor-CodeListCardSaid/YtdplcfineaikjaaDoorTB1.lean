/- strings.Builder: its methods at a builder of the caller's own. No condition but the room that Go gives. -/
import Derived.Test.YtdplcfineaikjaaDoorA16
import Derived.Test.YtdplcfineaikjaaDoorTy
namespace Go.Proofs.YtdplcfineaikjaaDoor
set_option linter.unusedVariables false
set_option linter.unusedSimpArgs false
open Go Go.RowKit
theorem info_of_siz {P : Program} {t : TypeId} {k : Nat} (h : siz P t = some k) : ∃ j, P.info? t = some j ∧ j.size = k := by
  unfold siz at h
  cases e : P.info? t with
  | none => rw [e] at h; cases h
  | some j => rw [e] at h; exact ⟨j, rfl, by injection h⟩
section
variable {Nx Nr : Heaplet} {b n c : Nat} {a : Option Addr} {p : Option Addr} {sl q : Value} {l : List UInt8}
theorem FCopy_n (Bx : Blk Nx b 73 [.pointer none, sl]) : Fn Tryd.prog 60 #[.pointer (some ⟨b, 0, none⟩)] [Nx] [] (fun v L => v = .tuple #[] ∧ ∃ M, L = [M] ∧ Blk M b 73 [.pointer (some ⟨b, 0, none⟩), sl]) := by
  obtain ⟨j, hj, hjs⟩ := info_of_siz sz73
  have hE : ∀ w, (callFunc 69 #[.pointer (some ⟨b, 0, none⟩)]).run Tryd.prog w = .ok (.value (.pointer (some ⟨b, 0, none⟩))) w := fun w => by
    rw [run_callFunc_extern Tryd.func69 (by kernel_rfl) (by kernel_rfl) (by kernel_rfl) (e := Extern.AbiNoEscape.same) (by kernel_rfl)]
    rfl
  refine Fn.enter (vs := [.pointer (some ⟨b, 0, none⟩)]) Tryd.func60 rfl rfl rfl ?_
  intro E R hR
  change At _ _ E [Nx, R] _
  refine At.seq fun K1 hk_1 => ?_
  refine At.region ?_
  refine op_move (nxlf rfl) rfl rfl ?_
  refine op_nilChk (nxlf rfl) rfl rfl ?_
  refine op_fieldAddr (nxlf rfl) fl73_0 rfl rfl ?_
  refine op_loadB (nxlf rfl) sc71 rfl Bx (by first | rfl) mem0 rfl ?_
  refine op_eqPN (nxlf rfl) Tryd.underlying71 rfl rfl rfl ?_
  refine At.opsNil ?_
  refine At.norm (hk_1 ?_)
  refine At.condT rfl ?_
  refine At.region ?_
  refine op_move (nxlf rfl) rfl rfl ?_
  refine op_move (nxlf rfl) rfl rfl ?_
  refine op_toU (nxlf rfl) Tryd.underlying71 Tryd.underlying101 hj (by rw [hjs]; decide) rfl Bx (by simp) mem0 rfl ?_
  refine op_ext (nxla rfl) (.cons rfl .nil) (hE) rfl ?_
  refine op_fromU (nxlf rfl) Tryd.underlying101 Tryd.underlying71 hj rfl Bx (by kernel_rfl) mem0 rfl ?_
  refine op_nilChk (nxlf rfl) rfl rfl ?_
  refine op_fieldAddr (nxlf rfl) fl73_0 rfl rfl ?_
  refine op_store (nxl rfl) sz71 rfl rfl rfl rfl rfl Bx (by simp) sel0 (fun Nx Bx => ?_)
  simp only [setL, List.set] at Bx
  refine At.opsNil ?_
  refine At.retNE (L1 := [Nx]) rfl .nil rfl (.refl _) (.refl _) ?_
  exact ⟨rfl, Nx, rfl, Bx⟩
theorem FCopy_s (Bx : Blk Nx b 73 [.pointer (some ⟨b, 0, none⟩), sl]) : Fn Tryd.prog 60 #[.pointer (some ⟨b, 0, none⟩)] [Nx] [] (fun v L => v = .tuple #[] ∧ ∃ M, L = [M] ∧ Blk M b 73 [.pointer (some ⟨b, 0, none⟩), sl]) := by
  obtain ⟨j, hj, hjs⟩ := info_of_siz sz73
  refine Fn.enter (vs := [.pointer (some ⟨b, 0, none⟩)]) Tryd.func60 rfl rfl rfl ?_
  intro E R hR
  change At _ _ E [Nx, R] _
  refine At.seq fun K1 hk_1 => ?_
  refine At.region ?_
  refine op_move (nxlf rfl) rfl rfl ?_
  refine op_nilChk (nxlf rfl) rfl rfl ?_
  refine op_fieldAddr (nxlf rfl) fl73_0 rfl rfl ?_
  refine op_loadB (nxlf rfl) sc71 rfl Bx (by first | rfl) mem0 rfl ?_
  refine op_eqPN (nxlf rfl) Tryd.underlying71 rfl rfl rfl ?_
  refine At.opsNil ?_
  refine At.norm (hk_1 ?_)
  refine At.condF rfl ?_
  refine At.seq fun K2 hk_2 => ?_
  refine At.region ?_
  refine op_move (nxlf rfl) rfl rfl ?_
  refine op_nilChk (nxlf rfl) rfl rfl ?_
  refine op_fieldAddr (nxlf rfl) fl73_0 rfl rfl ?_
  refine op_loadB (nxlf rfl) sc71 rfl Bx (by first | rfl) mem0 rfl ?_
  refine op_move (nxlf rfl) rfl rfl ?_
  refine op_nePS (nxlf rfl) Tryd.underlying71 hj rfl rfl rfl ?_
  refine At.opsNil ?_
  refine At.norm (hk_2 ?_)
  refine At.condF rfl ?_
  refine At.skip ?_
  refine At.retNE (L1 := [Nx]) rfl .nil rfl (.refl _) (.refl _) ?_
  exact ⟨rfl, Nx, rfl, Bx⟩
theorem FCopy_f (hp : p = none ∨ p = some ⟨b, 0, none⟩) (Bx : Blk Nx b 73 [.pointer p, sl]) : Fn Tryd.prog 60 #[.pointer (some ⟨b, 0, none⟩)] [Nx] [] (fun v L => v = .tuple #[] ∧ ∃ M, L = [M] ∧ Blk M b 73 [.pointer (some ⟨b, 0, none⟩), sl]) := by
  rcases hp with rfl | rfl
  · exact FCopy_n Bx
  · exact FCopy_s Bx
/-- What a writing method leaves: the builder, and its bytes. -/
def BldP (b m : Nat) (l : List UInt8) (L : List Heaplet) : Prop := ∃ M K a c, L = [M, K] ∧ Blk M b 73 [.pointer (some ⟨b, 0, none⟩), .slice a m c] ∧ Row K 5 1 a m c (u8s l)
theorem FWByte_f (hp : p = none ∨ p = some ⟨b, 0, none⟩) (Bx : Blk Nx b 73 [.pointer p, .slice a n c]) (hr : Row Nr 5 1 a n c (u8s l)) (hn : n ≤ 35184372088832) (x : UInt8) : Fn Tryd.prog 48 #[.pointer (some ⟨b, 0, none⟩), .int .u8 (x.toNat : Int)] [Nx, Nr] [] (fun v L => v = .nilIface ∧ BldP b (n + 1) (l ++ [x]) L) := by
  refine Fn.enter (vs := [.pointer (some ⟨b, 0, none⟩), .int .u8 (x.toNat : Int)]) Tryd.func48 rfl rfl rfl ?_
  intro E R hR
  change At _ _ E [Nx, Nr, R] _
  refine At.seq fun K1 hk_1 => ?_
  refine At.region ?_
  refine op_assign (nxlf rfl) rfl rfl ?_
  refine At.opsNil ?_
  refine At.norm (hk_1 ?_)
  refine At.seq fun K2 hk_2 => ?_
  refine At.region ?_
  refine op_move (nxlf rfl) rfl rfl ?_
  refine op_call (nxl rfl) (.cons rfl .nil) (FCopy_f hp Bx) (F := [Nr, R]) Tryd.func60 rfl rfl (.refl _) (by simp) rfl ?_
  rintro v6 L6 ⟨rfl, Nx, rfl, Bx⟩
  change At _ _ _ [Nx, Nr, R] _
  refine At.opsNil ?_
  refine At.norm (hk_2 ?_)
  refine At.seq fun K3 hk_3 => ?_
  refine At.region ?_
  refine op_move (nxlf rfl) rfl rfl ?_
  refine op_move (nxlf rfl) rfl rfl ?_
  refine op_nilChk (nxlf rfl) rfl rfl ?_
  refine op_fieldAddr (nxlf rfl) fl73_1 rfl rfl ?_
  refine op_loadB (nxlf rfl) sc22 rfl Bx (by first | rfl) mem0 rfl ?_
  refine op_move (nxlf rfl) rfl rfl ?_
  refine op_lit (nxla rfl) Tryd.underlying22 ze5 sz5 (.cons rfl .nil) rfl rfl (by simp [Value.cells]) rfl rfl rfl (fun N13 a13 r13 => ?_)
  simp only [flatV, List.flatMap_cons, List.flatMap_nil, Value.cells, List.append_nil, List.cons_append, List.nil_append] at r13
  have s13 := r13.rsl
  change Row N13 _ 1 a13 1 1 (u8s [x]) at r13
  have s13 := r13.rsl
  refine op_append (nxl rfl) Tryd.underlying22 Tryd.underlying22 te5 rfl rfl hr s13 (by first | exact mem0 | exact mem1 | exact mem2 | exact mem3 | exact mem4 | exact mem5 | exact mem6 | exact mem7 | exact mem8 | exact mem9) (by first | exact one_u8s _ | exact one_u64s _ | exact one_u32s _ | (intro u hu; simp at hu; subst hu; rfl)) (by omega) (by omega) sel2 rfl (fun N14 a14 p14 r14 => ?_)
  have s14 := r14.rsl
  refine op_nilChk (nxlf rfl) rfl rfl ?_
  refine op_fieldAddr (nxlf rfl) fl73_1 rfl rfl ?_
  refine op_store (nxl rfl) sz22 rfl rfl rfl rfl rfl Bx (by simp) sel2 (fun Nx Bx => ?_)
  simp only [setL, List.set] at Bx
  refine At.opsNil ?_
  refine At.norm (hk_3 ?_)
  refine At.seq fun K4 hk_4 => ?_
  refine At.region ?_
  refine op_assign (nxlf rfl) rfl rfl ?_
  refine At.opsNil ?_
  refine At.norm (hk_4 ?_)
  refine At.ret (?_)
  refine At.sub (L' := [Nx, N14, R]) (.cons_cons _ (.cons_cons _ (.cons _ (.cons_cons _ (.slnil))))) ?_
  refine At.ret1 (L1 := [Nx, N14]) rfl (.tmp rfl .nil) (.refl _) (.refl _) ?_
  exact ⟨rfl, Nx, N14, a14, p14, rfl, Bx, by rw [show u8s (l ++ [x]) = u8s l ++ u8s [x] by simp [u8s]]; exact r14⟩
theorem FWStr_f (hp : p = none ∨ p = some ⟨b, 0, none⟩) (Bx : Blk Nx b 73 [.pointer p, .slice a n c]) (hr : Row Nr 5 1 a n c (u8s l)) (xs : List UInt8) (hn : n + xs.length ≤ 35184372088832) : Fn Tryd.prog 47 #[.pointer (some ⟨b, 0, none⟩), str xs] [Nx, Nr] [] (fun v L => v = .tuple #[.int .i64 (xs.length : Int), .nilIface] ∧ BldP b (n + xs.length) (l ++ xs) L) := by
  obtain ⟨i, hi, hz, hsz, hby, _, _⟩ := te5
  refine Fn.enter (vs := [.pointer (some ⟨b, 0, none⟩), str xs]) Tryd.func47 rfl rfl rfl ?_
  intro E R hR
  change At _ _ E [Nx, Nr, R] _
  refine At.seq fun K1 hk_1 => ?_
  refine At.region ?_
  refine op_assign (nxlf rfl) rfl rfl ?_
  refine op_assign (nxlf rfl) rfl rfl ?_
  refine At.opsNil ?_
  refine At.norm (hk_1 ?_)
  refine At.seq fun K2 hk_2 => ?_
  refine At.region ?_
  refine op_move (nxlf rfl) rfl rfl ?_
  refine op_call (nxl rfl) (.cons rfl .nil) (FCopy_f hp Bx) (F := [Nr, R]) Tryd.func60 rfl rfl (.refl _) (by simp) rfl ?_
  rintro v7 L7 ⟨rfl, Nx, rfl, Bx⟩
  change At _ _ _ [Nx, Nr, R] _
  refine At.opsNil ?_
  refine At.norm (hk_2 ?_)
  refine At.seq fun K3 hk_3 => ?_
  refine At.region ?_
  refine op_move (nxlf rfl) rfl rfl ?_
  refine op_move (nxlf rfl) rfl rfl ?_
  refine op_nilChk (nxlf rfl) rfl rfl ?_
  refine op_fieldAddr (nxlf rfl) fl73_1 rfl rfl ?_
  refine op_loadB (nxlf rfl) sc22 rfl Bx (by first | rfl) mem0 rfl ?_
  refine op_move (nxlf rfl) rfl rfl ?_
  refine op_appendS (nxl rfl) Tryd.underlying22 Tryd.underlying9 hi hz hsz hby rfl rfl hr (by omega) sel1 rfl (fun N14 a14 p14 r14 => ?_)
  refine op_nilChk (nxlf rfl) rfl rfl ?_
  refine op_fieldAddr (nxlf rfl) fl73_1 rfl rfl ?_
  refine op_store (nxl rfl) sz22 rfl rfl rfl rfl rfl Bx (by simp) sel1 (fun Nx Bx => ?_)
  simp only [setL, List.set] at Bx
  refine At.opsNil ?_
  refine At.norm (hk_3 ?_)
  refine At.seq fun K4 hk_4 => ?_
  refine At.region ?_
  refine op_move (nxlf rfl) rfl rfl ?_
  refine op_lenStr (nxlf rfl) Tryd.underlying9 rfl rfl ?_
  refine op_assign (nxlf rfl) rfl rfl ?_
  refine op_assign (nxlf rfl) rfl rfl ?_
  refine At.opsNil ?_
  refine At.norm (hk_4 ?_)
  refine At.ret (?_)
  refine At.retN (L1 := [Nx, N14]) rfl (.tmp rfl (.tmp rfl .nil)) rfl (.refl _) (.refl _) ?_
  exact ⟨rfl, Nx, N14, a14, p14, rfl, Bx, by rw [show u8s (l ++ xs) = u8s l ++ u8s xs by simp [u8s]]; exact r14⟩
theorem FString_f (Bx : Blk Nx b 73 [q, .slice a n c]) (hr : Row Nr 5 1 a n c (u8s l)) (h0 : 0 < n) : Fn Tryd.prog 49 #[.pointer (some ⟨b, 0, none⟩)] [Nx, Nr] [] (fun v L => v = str l ∧ L = []) := by
  have hc1 := hr.2.1
  have hc2 : c ≤ 9223372036854775807 := hr.2.2.1
  obtain ⟨g, rfl⟩ : ∃ g, a = some ⟨g, 0, none⟩ := by
    rcases hr.2.2.2 with ⟨_, h, _⟩ | ⟨g, _, h, _⟩
    · omega
    · exact ⟨g, h⟩
  refine Fn.enter (vs := [.pointer (some ⟨b, 0, none⟩)]) Tryd.func49 rfl rfl rfl ?_
  intro E R hR
  change At _ _ E [Nx, Nr, R] _
  refine At.seq fun K1 hk_1 => ?_
  refine At.region ?_
  refine op_assign (nxlf rfl) rfl rfl ?_
  refine At.opsNil ?_
  refine At.norm (hk_1 ?_)
  refine At.seq fun K2 hk_2 => ?_
  refine At.drawn [10] [0,1,2,3,5,6,7,8,9,4,10,11] (by kernel_rfl) (by kernel_rfl) ?_
  refine op_move (nxof rfl rfl rfl (by kernel_rfl)) rfl rfl ?_
  refine op_nilChk (nxof rfl rfl rfl (by kernel_rfl)) rfl rfl ?_
  refine op_fieldAddr (nxof rfl rfl rfl (by kernel_rfl)) fl73_1 rfl rfl ?_
  refine op_loadB (nxof rfl rfl rfl (by kernel_rfl)) sc22 rfl Bx (by first | rfl) mem0 rfl ?_
  refine op_move (nxof rfl rfl rfl (by kernel_rfl)) rfl rfl ?_
  refine op_nilChk (nxof rfl rfl rfl (by kernel_rfl)) rfl rfl ?_
  refine op_fieldAddr (nxof rfl rfl rfl (by kernel_rfl)) fl73_1 rfl rfl ?_
  refine op_loadB (nxof rfl rfl rfl (by kernel_rfl)) sc22 rfl Bx (by first | rfl) mem0 rfl ?_
  refine op_lenS (nxof rfl rfl rfl (by kernel_rfl)) se22 rfl rfl ?_
  -- an operation that writes, not last
  refine op_sliceData (nxoa rfl rfl rfl) rfl (by omega) rfl ?_
  refine op_unsafeStr (nxos rfl rfl rfl rfl) Tryd.underlying87 (by kernel_rfl) rfl rfl hr h0 (by omega) sel1 rfl ?_
  refine op_assign (nxof rfl rfl rfl (by kernel_rfl)) rfl rfl ?_
  refine At.oneNil ?_
  refine At.norm (hk_2 ?_)
  refine At.ret (?_)
  refine At.sub (L' := [R]) (.cons _ (.cons_cons _ (.slnil))) ?_
  refine At.ret1 (L1 := []) rfl (.tmp rfl .nil) (.refl _) (.refl _) ?_
  exact ⟨rfl, rfl⟩
end
end Go.Proofs.YtdplcfineaikjaaDoor
