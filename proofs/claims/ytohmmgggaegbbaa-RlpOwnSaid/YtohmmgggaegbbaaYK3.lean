/- quarrylaw05's Twin, cut: an item in new memory, of not too many parts. No condition. -/
import Derived.Test.YtohmmgggaegbbaaYK2
namespace Go.Proofs.Ytohmmgggaegbbaa
set_option linter.unusedVariables false
set_option linter.unusedSimpArgs false
open Go Go.RowKit
mutual
/-- A bound of the form's length. -/
def sizeT : It → Nat
  | .mk _ bs its => 9 + bs.length + sizesT its
def sizesT : List It → Nat
  | [] => 0
  | t :: ts => sizeT t + sizesT ts
end
theorem sizesT_snoc (ts : List It) (t : It) : sizesT (ts ++ [t]) = sizesT ts + sizeT t := by
  induction ts with
  | nil => simp [sizesT]
  | cons x xs ih => simp only [List.cons_append, sizesT, ih]; omega
theorem depths_snoc (ts : List It) (t : It) : It.depths (ts ++ [t]) = max (It.depths ts) t.depth := by
  induction ts with
  | nil => simp [It.depths]
  | cons x xs ih => simp only [List.cons_append, It.depths, ih]; omega
mutual
theorem form_size : ∀ t : It, sizeT t < 256 ^ 8 → t.form.length ≤ sizeT t
  | .mk false bs its, h => by
    simp only [sizeT] at h ⊢
    rw [form_false]
    split
    · omega
    · have := rlpHead_le 128 bs.length (by omega)
      rw [List.length_append]; omega
  | .mk true bs its, h => by
    simp only [sizeT] at h ⊢
    have := forms_size its (by omega)
    have h9 := rlpHead_le 192 (It.forms its).length (by omega)
    rw [form_true, List.length_append]; omega
theorem forms_size : ∀ ts : List It, sizesT ts < 256 ^ 8 → (It.forms ts).length ≤ sizesT ts
  | [], _ => by simp [It.forms, sizesT]
  | t :: ts, h => by
    simp only [sizesT] at h ⊢
    have h1 := form_size t (by omega)
    have h2 := forms_size ts (by omega)
    rw [It.forms, List.length_append]; omega
end
/-- What Twin tells: an item of a bounded size; what is left is told. -/
def TwinP (bl deep left : Nat) (v : Value) (L : List Heaplet) : Prop :=
  ∃ Nl M, ∃ y : IV, ∃ t' left', v = .agg #[.bool y.l, .slice y.ab y.nb y.cb, .slice y.ai y.ni y.ci] ∧ L = [Nl, M] ∧ Blk Nl bl 3 [.int .i64 ((left' : Nat) : Int)] ∧ ItN M t' y ∧ t'.depth ≤ deep + 1 ∧ sizeT t' ≤ 409 * (left - left') ∧ left' < left
set_option maxRecDepth 100000 in
theorem Twin_f (t : It) : ∀ (N Nl : Heaplet) (x : IV) (bl deep left : Nat) (q : Int), ItN N t x → Blk Nl bl 3 [.int .i64 (left : Int)] → 0 < left → left ≤ 100000 → q = deep → deep ≤ 100000 →
    Fn Try.prog 25 #[.agg #[.bool x.l, .slice x.ab x.nb x.cb, .slice x.ai x.ni x.ci], .int .i64 q, .pointer (some ⟨bl, 0, none⟩)] [Nl] [N] (TwinP bl deep left) := by
  induction t using It.ind_it with | h l bs its ih => ?_
  intro N Nl x bl deep left q h Bl hl0 hl1 hq hdp
  simp only [ItN] at h
  obtain ⟨rfl, h1, xs, hI, hX⟩ := h
  have hn : xs.length = x.ni := by have := hI.1; rw [length_cellsI] at this; omega
  have hn2 := hX.length
  have hcap := hI.cap63
  have hnb := h1.len8
  have htk : (bs.take 400).length ≤ 400 := by rw [List.length_take]; omega
  cases hb : x.l with
  | false =>
    refine Fn.enter (vs := [.agg #[.bool false, .slice x.ab x.nb x.cb, .slice x.ai x.ni x.ci], .int .i64 q, .pointer (some ⟨bl, 0, none⟩)]) Try.func25 rfl rfl rfl ?_
    intro E R hR
    have h1 := h1.le (hR N (by simp))
    have el : ((left - 1 : Nat) : Int) = (left : Int) - 1 := by omega
    change At _ _ E [Nl, R] _
    refine At.seq fun K1 hk_1 => ?_
    refine At.region ?_
    refine op_box (nxla rfl) rfl rfl rfl (fun N3 b3 B3 => ?_)
    refine op_alloc (nxla rfl) ze25 rfl (fun N6 b6 B6 => ?_)
    change Blk N6 b6 _ [.bool false, .slice none 0 0, .slice none 0 0] at B6
    refine At.opsNil ?_
    refine At.norm (hk_1 ?_)
    refine At.seq fun K2 hk_2 => ?_
    refine At.region ?_
    refine op_move (nxlf rfl) rfl rfl ?_
    refine op_nilChk (nxlf rfl) rfl rfl ?_
    refine op_loadB (nxlf rfl) sc3 rfl Bl (by first | rfl) mem2 rfl ?_
    refine op_subI (nxlf rfl) rfl rfl (by omega) (by omega) rfl ?_
    refine op_nilChk (nxlf rfl) rfl rfl ?_
    refine op_store (nxl rfl) sz3 rfl rfl rfl rfl rfl Bl (by simp) sel2 (fun Nl Bl => ?_)
    simp only [setL, List.set] at Bl
    refine At.opsNil ?_
    refine At.norm (hk_2 ?_)
    refine At.seq fun K3 hk_3 => ?_
    refine At.meet (fun fr_ hp_ => ∃ (b7 : Nat) (a18 : Option Addr) (p18 : Nat) (N7 M18 : Heaplet), fr_ = [(1, .int .i64 q), (2, .pointer (some ⟨bl, 0, none⟩)), (3, .pointer (some ⟨b3, 0, none⟩)), (6, .pointer (some ⟨b6, 0, none⟩)), (7, .pointer (some ⟨b7, 0, none⟩))] ∧ hp_ = [N7, M18, Nl, N6, N3, R] ∧ (Blk N7 b7 25 [.bool false, .slice a18 (bs.take 400).length p18, .slice none 0 0]) ∧ (RSl M18 1 a18 (bs.take 400).length p18 (u8s (bs.take 400)))) ?_ (fun K3_ jk_3 => ?_)
    rotate_left
    · skip
      refine At.planS [Nl, N6, N3, R] (.take 0 (.take 1 (.take 2 (.take 3 (.fork 4 false (.take 5 (.fork 6 false (.fork 7 true .done .nofork) .nofork)) (.fork 6 false (.fork 4 false (.take 5 (.fork 7 true .done .nofork)) .nofork) .nofork)))))) (by kernel_rfl) (by kernel_rfl) (.refl _) ?_
      refine op_fieldAddr (nxpf rfl rfl) fl25_0 rfl rfl ?_
      refine op_loadB (nxpf rfl rfl) sc4 rfl B3 (by first | rfl) mem2 rfl ?_
      refine op_fieldAddr (nxpf rfl rfl) fl25_1 rfl rfl ?_
      refine op_loadB (nxpf rfl rfl) sc22 rfl B3 (by first | rfl) mem2 rfl ?_
      refine At.fork ?_ ?_
      rotate_left
      · refine At.fork ?_ ?_
        rotate_left
        · exact At.pNo
        refine op_alloc (Nx.agree (nxpa rfl rfl)) ze25 rfl (fun N7 b7 B7 => ?_)
        change Blk N7 b7 _ [.bool false, .slice none 0 0, .slice none 0 0] at B7
        refine At.andS (.cons _ (.refl _)) ?_
        refine At.fork ?_ ?_
        rotate_left
        · exact At.pNo
        refine op_callA (Nx.agree (nxpa rfl rfl)) (.cons rfl (.cons rfl .nil)) (KTwin_f h1 400 400 (by omega) (by omega)) Try.func16 rfl rfl (by simp) rfl ?_
        rintro v18 L18 ⟨M18, a18, p18, rfl, rfl, r18⟩
        change At _ _ _ [M18, N7, Nl, N6, N3, R] _
        have s18 := r18.rsl
        refine At.andS (.cons _ (.cons _ (.refl _))) ?_
        refine op_build (out := [_, _, .slice none 0 0]) (nxpf rfl rfl) ze25 pl25 (.cons rfl (.cons rfl .nil)) rfl rfl ?_
        refine At.fork ?_ ?_
        rotate_left
        · exact At.pNo
        refine op_store (nxpl rfl rfl) sz25 rfl rfl rfl rfl rfl B7 (by simp) sel1 (fun N7 B7 => ?_)
        simp only [setL, List.set] at B7
        refine At.pDone ?_
        refine At.norm (jk_3 ?_ (.refl _) ⟨b7, a18, p18, N7, M18, rfl, rfl, B7, s18⟩)
        exact .cons (by first | exact lkI rfl (by omega) | rfl) (.cons (by first | exact lkI rfl (by omega) | rfl) (.cons (by first | exact lkI rfl (by omega) | rfl) (.cons (by first | exact lkI rfl (by omega) | rfl) (.cons (by first | exact lkI rfl (by omega) | rfl) .nil))))
      refine op_callA (Nx.agree (nxpa rfl rfl)) (.cons rfl (.cons rfl .nil)) (KTwin_f h1 400 400 (by omega) (by omega)) Try.func16 rfl rfl (by simp) rfl ?_
      rintro v18 L18 ⟨M18, a18, p18, rfl, rfl, r18⟩
      change At _ _ _ [M18, Nl, N6, N3, R] _
      have s18 := r18.rsl
      refine At.andS (.cons _ (.refl _)) ?_
      refine op_build (out := [_, _, .slice none 0 0]) (nxpf rfl rfl) ze25 pl25 (.cons rfl (.cons rfl .nil)) rfl rfl ?_
      refine At.fork ?_ ?_
      rotate_left
      · exact At.pNo
      refine op_alloc (Nx.agree (nxpa rfl rfl)) ze25 rfl (fun N7 b7 B7 => ?_)
      change Blk N7 b7 _ [.bool false, .slice none 0 0, .slice none 0 0] at B7
      refine At.andS (.cons _ (.cons _ (.refl _))) ?_
      refine At.fork ?_ ?_
      rotate_left
      · exact At.pNo
      refine op_store (nxpl rfl rfl) sz25 rfl rfl rfl rfl rfl B7 (by simp) sel0 (fun N7 B7 => ?_)
      simp only [setL, List.set] at B7
      refine At.pDone ?_
      refine At.norm (jk_3 ?_ (.refl _) ⟨b7, a18, p18, N7, M18, rfl, rfl, B7, s18⟩)
      exact .cons (by first | exact lkI rfl (by omega) | rfl) (.cons (by first | exact lkI rfl (by omega) | rfl) (.cons (by first | exact lkI rfl (by omega) | rfl) (.cons (by first | exact lkI rfl (by omega) | rfl) (.cons (by first | exact lkI rfl (by omega) | rfl) .nil))))
    rintro _ _ ⟨b7, a18, p18, N7, M18, rfl, rfl, B7, s18⟩
    refine hk_3 ?_
    refine At.seq fun K4 hk_4 => ?_
    refine At.seq fun K5 hk_5 => ?_
    refine At.region ?_
    refine op_fieldAddr (nxlf rfl) fl25_0 rfl rfl ?_
    refine op_loadB (nxlf rfl) sc4 rfl B3 (by first | rfl) mem4 rfl ?_
    refine op_not (nxlf rfl) rfl rfl ?_
    refine op_move (nxlf rfl) rfl rfl ?_
    refine op_skip rfl rfl rfl rfl rfl rfl rfl ?_
    refine op_skip rfl rfl rfl rfl rfl rfl rfl ?_
    refine op_pickT (nxlf rfl) rfl rfl rfl ?_
    refine At.opsNil ?_
    refine At.norm (hk_5 ?_)
    refine At.condT rfl ?_
    refine At.seq fun K6 hk_6 => ?_
    refine At.region ?_
    refine op_loadAggB (ds := [_, _, _]) (nxlf rfl) ag25 rfl B7 rfl rfl mem0 rfl ?_
    refine op_store (nxl rfl) sz25 rfl rfl rfl rfl rfl B6 (by simp) sel3 (fun N6 B6 => ?_)
    simp only [setL, List.set] at B6
    refine At.opsNil ?_
    refine At.norm (hk_6 ?_)
    refine At.ret (At.thenRet (?_))
    refine At.sub (L' := [N6, M18, Nl, R]) (.cons_cons _ (.cons _ (.cons_cons _ (.cons_cons _ (.cons _ (.cons_cons _ (.slnil))))))) ?_
    refine At.perm sel3 ?_
    refine At.perm sel2 ?_
    refine At.perm sel3 ?_
    refine At.perm sel3 ?_
    refine At.ret1 (L1 := [Nl, M18]) rfl (.cell rfl (res_agg (ds := [_, _, _]) ag25 B6 rfl rfl mem0) .nil) (.cons _ (.refl _)) (.refl _) ?_
    rw [← el] at Bl
    refine ⟨Nl, M18, ⟨false, a18, (bs.take 400).length, p18, none, 0, 0⟩, .mk false (bs.take 400) [], left - 1, rfl, rfl, Bl, ItN.mk s18 (xs := []) (RSl.nil _ _) rfl, by simp [It.depth], ?_, by omega⟩
    simp only [sizeT, sizesT]; omega
  | true =>
    refine Fn.enter (vs := [.agg #[.bool true, .slice x.ab x.nb x.cb, .slice x.ai x.ni x.ci], .int .i64 q, .pointer (some ⟨bl, 0, none⟩)]) Try.func25 rfl rfl rfl ?_
    intro E R hR
    have h1 := h1.le (hR N (by simp))
    have hI := hI.le (hR N (by simp))
    have hX := hX.le (hR N (by simp))
    have el : ((left - 1 : Nat) : Int) = (left : Int) - 1 := by omega
    change At _ _ E [Nl, R] _
    refine At.seq fun K1 hk_1 => ?_
    refine At.region ?_
    refine op_box (nxla rfl) rfl rfl rfl (fun N3 b3 B3 => ?_)
    refine op_alloc (nxla rfl) ze25 rfl (fun N6 b6 B6 => ?_)
    change Blk N6 b6 _ [.bool false, .slice none 0 0, .slice none 0 0] at B6
    refine At.opsNil ?_
    refine At.norm (hk_1 ?_)
    refine At.seq fun K2 hk_2 => ?_
    refine At.region ?_
    refine op_move (nxlf rfl) rfl rfl ?_
    refine op_nilChk (nxlf rfl) rfl rfl ?_
    refine op_loadB (nxlf rfl) sc3 rfl Bl (by first | rfl) mem2 rfl ?_
    refine op_subI (nxlf rfl) rfl rfl (by omega) (by omega) rfl ?_
    refine op_nilChk (nxlf rfl) rfl rfl ?_
    refine op_store (nxl rfl) sz3 rfl rfl rfl rfl rfl Bl (by simp) sel2 (fun Nl Bl => ?_)
    simp only [setL, List.set] at Bl
    refine At.opsNil ?_
    refine At.norm (hk_2 ?_)
    refine At.seq fun K3 hk_3 => ?_
    refine At.meet (fun fr_ hp_ => ∃ (b7 : Nat) (a18 : Option Addr) (p18 : Nat) (N7 M18 : Heaplet), fr_ = [(1, .int .i64 q), (2, .pointer (some ⟨bl, 0, none⟩)), (3, .pointer (some ⟨b3, 0, none⟩)), (6, .pointer (some ⟨b6, 0, none⟩)), (7, .pointer (some ⟨b7, 0, none⟩))] ∧ hp_ = [N7, M18, Nl, N6, N3, R] ∧ (Blk N7 b7 25 [.bool true, .slice a18 (bs.take 400).length p18, .slice none 0 0]) ∧ (RSl M18 1 a18 (bs.take 400).length p18 (u8s (bs.take 400)))) ?_ (fun K3_ jk_3 => ?_)
    rotate_left
    · skip
      refine At.planS [Nl, N6, N3, R] (.take 0 (.take 1 (.take 2 (.take 3 (.fork 4 false (.take 5 (.fork 6 false (.fork 7 true .done .nofork) .nofork)) (.fork 6 false (.fork 4 false (.take 5 (.fork 7 true .done .nofork)) .nofork) .nofork)))))) (by kernel_rfl) (by kernel_rfl) (.refl _) ?_
      refine op_fieldAddr (nxpf rfl rfl) fl25_0 rfl rfl ?_
      refine op_loadB (nxpf rfl rfl) sc4 rfl B3 (by first | rfl) mem2 rfl ?_
      refine op_fieldAddr (nxpf rfl rfl) fl25_1 rfl rfl ?_
      refine op_loadB (nxpf rfl rfl) sc22 rfl B3 (by first | rfl) mem2 rfl ?_
      refine At.fork ?_ ?_
      rotate_left
      · refine At.fork ?_ ?_
        rotate_left
        · exact At.pNo
        refine op_alloc (Nx.agree (nxpa rfl rfl)) ze25 rfl (fun N7 b7 B7 => ?_)
        change Blk N7 b7 _ [.bool false, .slice none 0 0, .slice none 0 0] at B7
        refine At.andS (.cons _ (.refl _)) ?_
        refine At.fork ?_ ?_
        rotate_left
        · exact At.pNo
        refine op_callA (Nx.agree (nxpa rfl rfl)) (.cons rfl (.cons rfl .nil)) (KTwin_f h1 400 400 (by omega) (by omega)) Try.func16 rfl rfl (by simp) rfl ?_
        rintro v18 L18 ⟨M18, a18, p18, rfl, rfl, r18⟩
        change At _ _ _ [M18, N7, Nl, N6, N3, R] _
        have s18 := r18.rsl
        refine At.andS (.cons _ (.cons _ (.refl _))) ?_
        refine op_build (out := [_, _, .slice none 0 0]) (nxpf rfl rfl) ze25 pl25 (.cons rfl (.cons rfl .nil)) rfl rfl ?_
        refine At.fork ?_ ?_
        rotate_left
        · exact At.pNo
        refine op_store (nxpl rfl rfl) sz25 rfl rfl rfl rfl rfl B7 (by simp) sel1 (fun N7 B7 => ?_)
        simp only [setL, List.set] at B7
        refine At.pDone ?_
        refine At.norm (jk_3 ?_ (.refl _) ⟨b7, a18, p18, N7, M18, rfl, rfl, B7, s18⟩)
        exact .cons (by first | exact lkI rfl (by omega) | rfl) (.cons (by first | exact lkI rfl (by omega) | rfl) (.cons (by first | exact lkI rfl (by omega) | rfl) (.cons (by first | exact lkI rfl (by omega) | rfl) (.cons (by first | exact lkI rfl (by omega) | rfl) .nil))))
      refine op_callA (Nx.agree (nxpa rfl rfl)) (.cons rfl (.cons rfl .nil)) (KTwin_f h1 400 400 (by omega) (by omega)) Try.func16 rfl rfl (by simp) rfl ?_
      rintro v18 L18 ⟨M18, a18, p18, rfl, rfl, r18⟩
      change At _ _ _ [M18, Nl, N6, N3, R] _
      have s18 := r18.rsl
      refine At.andS (.cons _ (.refl _)) ?_
      refine op_build (out := [_, _, .slice none 0 0]) (nxpf rfl rfl) ze25 pl25 (.cons rfl (.cons rfl .nil)) rfl rfl ?_
      refine At.fork ?_ ?_
      rotate_left
      · exact At.pNo
      refine op_alloc (Nx.agree (nxpa rfl rfl)) ze25 rfl (fun N7 b7 B7 => ?_)
      change Blk N7 b7 _ [.bool false, .slice none 0 0, .slice none 0 0] at B7
      refine At.andS (.cons _ (.cons _ (.refl _))) ?_
      refine At.fork ?_ ?_
      rotate_left
      · exact At.pNo
      refine op_store (nxpl rfl rfl) sz25 rfl rfl rfl rfl rfl B7 (by simp) sel0 (fun N7 B7 => ?_)
      simp only [setL, List.set] at B7
      refine At.pDone ?_
      refine At.norm (jk_3 ?_ (.refl _) ⟨b7, a18, p18, N7, M18, rfl, rfl, B7, s18⟩)
      exact .cons (by first | exact lkI rfl (by omega) | rfl) (.cons (by first | exact lkI rfl (by omega) | rfl) (.cons (by first | exact lkI rfl (by omega) | rfl) (.cons (by first | exact lkI rfl (by omega) | rfl) (.cons (by first | exact lkI rfl (by omega) | rfl) .nil))))
    rintro _ _ ⟨b7, a18, p18, N7, M18, rfl, rfl, B7, s18⟩
    refine hk_3 ?_
    refine At.seq fun K4 hk_4 => ?_
    refine At.seq fun K5 hk_5 => ?_
    refine At.region ?_
    refine op_fieldAddr (nxlf rfl) fl25_0 rfl rfl ?_
    refine op_loadB (nxlf rfl) sc4 rfl B3 (by first | rfl) mem4 rfl ?_
    refine op_not (nxlf rfl) rfl rfl ?_
    refine op_move (nxlf rfl) rfl rfl ?_
    refine op_move (nxgf rfl rfl rfl rfl) rfl rfl ?_
    refine op_eql (nxgf rfl rfl rfl rfl) rfl rfl rfl ?_
    refine op_pickF (nxlf rfl) rfl rfl rfl ?_
    refine At.opsNil ?_
    refine At.norm (hk_5 ?_)
    refine At.condP rfl (fun c26 => ?_) (fun c26 => ?_)
    · refine At.seq fun K6 hk_6 => ?_
      refine At.region ?_
      refine op_loadAggB (ds := [_, _, _]) (nxlf rfl) ag25 rfl B7 rfl rfl mem0 rfl ?_
      refine op_store (nxl rfl) sz25 rfl rfl rfl rfl rfl B6 (by simp) sel3 (fun N6 B6 => ?_)
      simp only [setL, List.set] at B6
      refine At.opsNil ?_
      refine At.norm (hk_6 ?_)
      refine At.ret (At.thenRet (?_))
      refine At.sub (L' := [N6, M18, Nl, R]) (.cons_cons _ (.cons _ (.cons_cons _ (.cons_cons _ (.cons _ (.cons_cons _ (.slnil))))))) ?_
      refine At.perm sel3 ?_
      refine At.perm sel2 ?_
      refine At.perm sel3 ?_
      refine At.perm sel3 ?_
      refine At.ret1 (L1 := [Nl, M18]) rfl (.cell rfl (res_agg (ds := [_, _, _]) ag25 B6 rfl rfl mem0) .nil) (.cons _ (.refl _)) (.refl _) ?_
      rw [← el] at Bl
      refine ⟨Nl, M18, ⟨true, a18, (bs.take 400).length, p18, none, 0, 0⟩, .mk true (bs.take 400) [], left - 1, rfl, rfl, Bl, ItN.mk s18 (xs := []) (RSl.nil _ _) rfl, by simp [It.depth, It.depths], ?_, by omega⟩
      simp only [sizeT, sizesT]; omega
    · refine At.skip ?_
      refine At.norm (hk_4 ?_)
      refine At.seq fun K7 hk_7 => ?_
      refine At.seq fun K8 hk_8 => ?_
      refine At.region ?_
      refine op_assign (nxlf rfl) rfl rfl ?_
      refine At.opsNil ?_
      refine At.norm (hk_8 ?_)
      refine At.block ?_
      refine At.empty ?_
      refine At.empty ?_
      refine At.perm sel7 ?_
      refine At.perm sel4 ?_
      refine At.perm sel5 ?_
      refine At.perm sel3 ?_
      refine At.perm sel4 ?_
      refine At.perm sel5 ?_
      refine At.perm sel6 ?_
      refine At.perm sel7 ?_
      refine At.loop (fun fr_ hp_ ms_ => ∃ (i lf : Nat) (ai : Option Addr) (ni ci : Nat) (its' : List It) (xs' : List IV) (Nl N7 Nr Ns : Heaplet), fr_ = [(1, .int .i64 q), (2, .pointer (some ⟨bl, 0, none⟩)), (3, .pointer (some ⟨b3, 0, none⟩)), (6, .pointer (some ⟨b6, 0, none⟩)), (7, .pointer (some ⟨b7, 0, none⟩)), (8, .int .i64 (i : Int))] ∧ hp_ = [N3, N6, N7, Nr, Ns, Nl, M18, R] ∧ x.ni - i = ms_ ∧ (i ≤ x.ni) ∧ (Blk Nl bl 3 [.int .i64 (lf : Int)]) ∧ (Blk N7 b7 25 [.bool true, .slice a18 (bs.take 400).length p18, .slice ai ni ci]) ∧ (Row Nr 25 3 ai ni ci (cellsI xs')) ∧ (xs'.length = ni) ∧ (ItsN Ns its' xs') ∧ (It.depths its' ≤ deep) ∧ (sizesT its' ≤ 409 * (left - 1 - lf)) ∧ (lf < left) ∧ (ni + lf ≤ left)) ?_ (.refl _) ⟨0, left - 1, none, 0, 0, [], [], Nl, N7, nilH, nilH, rfl, rfl, rfl, by omega, by rw [el]; exact Bl, B7, Row.nil _ _ _, rfl, rfl, by simp [It.depths], by simp [sizesT], by omega, by omega⟩ ?_
      · exact .cons (by first | exact lkI rfl (by omega) | rfl) (.cons (by first | exact lkI rfl (by omega) | rfl) (.cons (by first | exact lkI rfl (by omega) | rfl) (.cons (by first | exact lkI rfl (by omega) | rfl) (.cons (by first | exact lkI rfl (by omega) | rfl) (.cons (by first | exact lkI rfl (by omega) | rfl) .nil)))))
      rintro _ _ _ ⟨i, lf, ai, ni, ci, its', xs', Nl, N7, Nr, Ns, rfl, rfl, rfl, hi, Bl, B7, rr, hni, hs, hdd, hsz, hlf, hcnt⟩
      have sr := rr.rsl
      refine At.seq fun K9 hk_9 => ?_
      refine At.seq fun K10 hk_10 => ?_
      refine At.region ?_
      refine op_move (nxlf rfl) rfl rfl ?_
      refine op_fieldAddr (nxlf rfl) fl25_2 rfl rfl ?_
      refine op_loadB (nxlf rfl) sc23 rfl B3 (by first | rfl) mem0 rfl ?_
      refine op_lenS (nxlf rfl) se23 rfl rfl ?_
      refine op_lss (nxlf rfl) rfl rfl rfl ?_
      refine op_move (nxlf rfl) rfl rfl ?_
      refine At.partP (d := 33) rfl (fun g33 => ?_) (fun g33 => ?_)
      · have hlt : i < its.length := by omega
        obtain ⟨y, hy, hyi⟩ := hX.get (List.getElem?_eq_getElem hlt)
        refine op_move (nxgf rfl rfl rfl rfl) rfl rfl ?_
        refine op_nilChk (nxgf rfl rfl rfl rfl) rfl rfl ?_
        refine op_loadB (nxgf rfl rfl rfl rfl) sc3 rfl Bl (by first | rfl) mem5 rfl ?_
        refine op_gtr (nxgf rfl rfl rfl rfl) rfl rfl rfl ?_
        refine op_pickT (nxlf rfl) rfl rfl rfl ?_
        refine At.opsNil ?_
        refine At.norm (hk_10 ?_)
        refine At.condP rfl (fun c38 => ?_) (fun c38 => ?_)
        · refine At.skip ?_
          refine At.norm (hk_9 ?_)
          refine At.seq fun K11 hk_11 => ?_
          refine At.block ?_
          refine At.perm sel7 ?_
          refine At.perm sel3 ?_
          refine At.perm sel2 ?_
          refine At.perm sel7 ?_
          refine At.perm sel7 ?_
          refine At.perm sel7 ?_
          refine At.perm sel7 ?_
          refine At.perm sel7 ?_
          refine At.drawnS [N3, N7, R] [12,14] [] [0,1,2,3,4,5,6,7,8,9,10,11,12,13,14] (by kernel_rfl) (by kernel_rfl) (.cons _ (.cons _ (.cons _ (.cons _ (.cons _ (.refl _)))))) ?_
          refine op_fieldAddr (nxsf rfl rfl rfl) fl25_2 rfl rfl ?_
          refine op_loadB (nxsf rfl rfl rfl) sc23 rfl B7 (by first | rfl) mem1 rfl ?_
          refine op_fieldAddr (nxsf rfl rfl rfl) fl25_2 rfl rfl ?_
          refine op_loadB (nxsf rfl rfl rfl) sc23 rfl B3 (by first | rfl) mem0 rfl ?_
          refine op_move (nxsf rfl rfl rfl) rfl rfl ?_
          refine op_idxE (nxsf rfl rfl rfl) se23 rfl rfl (by assumption) (show _ = (((i : Nat)) : Int) from by omega) (by omega) rfl ?_
          refine op_loadAggE (nxsf rfl rfl rfl) ag25 rfl (by assumption) (by exact cells_at hy) (by rfl) (by omega) (by first | exact mem0 | exact mem1 | exact mem2 | exact mem3 | exact mem4 | exact mem5 | exact mem6 | exact mem7 | exact mem8 | exact mem9) rfl ?_
          refine op_move (nxsf rfl rfl rfl) rfl rfl ?_
          refine op_subI (nxsf rfl rfl rfl) rfl rfl (by omega) (by omega) rfl ?_
          refine op_move (nxsf rfl rfl rfl) rfl rfl ?_
          refine At.perm sel7 ?_
          refine At.perm sel7 ?_
          refine At.perm sel7 ?_
          refine At.perm sel7 ?_
          refine At.perm sel6 ?_
          refine At.perm sel6 ?_
          refine At.perm sel6 ?_
          refine At.perm sel7 ?_
          refine op_call (nxsm rfl rfl rfl) (.cons rfl (.cons rfl (.cons rfl .nil))) (ih its[i] (List.getElem_mem hlt) R Nl y bl (deep - 1) lf (q - 1) hyi Bl (by omega) (by omega) (by omega) (by omega)) (F := [N6, Nr, Ns, M18, N3, N7, R]) Try.func25 rfl rfl (.refl _) (by simp) rfl ?_
          rintro v51 L51 ⟨Nl, M51, z, t', lf', rfl, rfl, Bl, hz, hdz, hsz2, hlz⟩
          change At _ _ _ [Nl, M51, N6, Nr, Ns, M18, N3, N7, R] _
          refine At.perm sel8 ?_
          refine At.perm sel8 ?_
          refine At.perm sel8 ?_
          refine At.perm sel4 ?_
          refine At.perm sel8 ?_
          refine At.perm sel8 ?_
          refine At.perm sel8 ?_
          refine At.perm sel8 ?_
          refine At.perm sel8 ?_
          refine At.moreS (Lst := [N3, N7, R]) (Lst' := [M51, N3, N7, R]) (.cons _ (.refl _)) (.cons _ (.cons _ (.cons _ (.cons _ (.cons _ (.refl _)))))) ?_
          refine op_lit (Nx.agree (nxsm rfl rfl rfl)) Try.underlying23 ze25 sz25 (.cons rfl .nil) rfl rfl (by simp [Value.cells]) rfl rfl rfl (fun N52 a52 r52 => ?_)
          simp only [flatV, List.flatMap_cons, List.flatMap_nil, Value.cells, List.append_nil, List.cons_append, List.nil_append] at r52
          have s52 := r52.rsl
          refine At.perm sel9 ?_
          refine At.perm sel9 ?_
          refine At.perm sel9 ?_
          refine At.perm sel9 ?_
          refine At.perm sel4 ?_
          refine At.perm sel9 ?_
          refine At.perm sel9 ?_
          refine At.perm sel9 ?_
          refine At.perm sel9 ?_
          refine At.perm sel9 ?_
          refine At.moreS (Lst := [M51, N3, N7, R]) (Lst' := [N52, M51, N3, N7, R]) (.cons _ (.refl _)) (.cons _ (.cons _ (.cons _ (.cons _ (.cons _ (.refl _)))))) ?_
          refine op_append (nxss rfl rfl rfl rfl) Try.underlying23 Try.underlying23 te25 rfl rfl rr (by assumption) (by first | exact mem0 | exact mem1 | exact mem2 | exact mem3 | exact mem4 | exact mem5 | exact mem6 | exact mem7 | exact mem8 | exact mem9) (by intro u hu; simp at hu; rcases hu with rfl | rfl | rfl <;> rfl) (by omega) (by omega) sel2 rfl (fun N53 a53 p53 r53 => ?_)
          have s53 := r53.rsl
          refine At.anyS (.refl _) ?_
          refine op_fieldAddr (nxsf rfl rfl rfl) fl25_2 rfl rfl ?_
          refine op_store (nxsl rfl rfl rfl rfl) sz23 rfl rfl rfl rfl rfl B7 (by simp) sel8 (fun N7 B7 => ?_)
          simp only [setL, List.set] at B7
          refine At.sNil ?_
          refine At.inNorm ?_
          refine At.norm (hk_11 ?_)
          refine At.region ?_
          refine op_move (nxlf rfl) rfl rfl ?_
          refine op_addI (nxlf rfl) rfl rfl (by omega) (by omega) rfl ?_
          refine op_assign (nxlf rfl) rfl rfl ?_
          refine At.opsNil ?_
          refine At.norm ?_
          refine At.perm sel9 ?_
          refine At.perm sel9 ?_
          refine At.perm sel8 ?_
          refine At.perm sel8 ?_
          refine At.perm sel7 ?_
          refine At.perm sel7 ?_
          refine At.perm sel7 ?_
          refine At.perm sel7 ?_
          refine At.perm sel9 ?_
          refine At.perm sel9 ?_
          refine At.mergeN (fun Nz Nz1 Nz2 => ?_)
          refine At.sub (L' := [Nz, N7, N53, Nl, N6, M18, N3, R]) (.cons_cons _ (.cons_cons _ (.cons_cons _ (.cons_cons _ (.cons_cons _ (.cons_cons _ (.cons _ (.cons_cons _ (.cons_cons _ (.slnil)))))))))) ?_
          refine At.perm sel7 ?_
          refine At.perm sel6 ?_
          refine At.perm sel5 ?_
          refine At.perm sel3 ?_
          refine At.perm sel5 ?_
          refine At.perm sel5 ?_
          refine At.perm sel6 ?_
          refine At.perm sel7 ?_
          refine At.back ?_ (.refl _) ⟨i + 1, lf', a53, ni + 1, p53, its' ++ [t'], xs' ++ [z], Nl, N7, N53, Nz, rfl, rfl, rfl, by omega, Bl, B7, by rw [cellsI, List.flatMap_append]; exact r53, by simp [hni], (hs.le Nz1).snoc (hz.le Nz2), by rw [depths_snoc]; omega, by rw [sizesT_snoc]; omega, by omega, by omega⟩ ?_
          · exact .cons (by first | exact lkI rfl (by omega) | rfl) (.cons (by first | exact lkI rfl (by omega) | rfl) (.cons (by first | exact lkI rfl (by omega) | rfl) (.cons (by first | exact lkI rfl (by omega) | rfl) (.cons (by first | exact lkI rfl (by omega) | rfl) (.cons (by first | exact lkI rfl (by omega) | rfl) .nil)))))
          · omega
        · refine At.exit (At.thenExit (At.thenExit (At.inHit ?_)))
          refine At.norm (hk_7 ?_)
          refine At.seq fun K12 hk_12 => ?_
          refine At.region ?_
          refine op_loadAggB (ds := [_, _, _]) (nxlf rfl) ag25 rfl B7 rfl rfl mem2 rfl ?_
          refine op_store (nxl rfl) sz25 rfl rfl rfl rfl rfl B6 (by simp) sel1 (fun N6 B6 => ?_)
          simp only [setL, List.set] at B6
          refine At.opsNil ?_
          refine At.norm (hk_12 ?_)
          refine At.ret (?_)
          refine At.perm sel7 ?_
          refine At.perm sel7 ?_
          refine At.perm sel7 ?_
          refine At.perm sel5 ?_
          refine At.perm sel5 ?_
          refine At.perm sel5 ?_
          refine At.perm sel7 ?_
          refine At.perm sel7 ?_
          refine At.mergeN (fun Nx Nx1 Nx2 => ?_)
          refine At.perm sel6 ?_
          refine At.perm sel5 ?_
          refine At.perm sel5 ?_
          refine At.perm sel5 ?_
          refine At.perm sel5 ?_
          refine At.perm sel5 ?_
          refine At.perm sel6 ?_
          refine At.mergeN (fun Ny Ny1 Ny2 => ?_)
          refine At.sub (L' := [Ny, N6, Nl, R]) (.cons_cons _ (.cons_cons _ (.cons _ (.cons _ (.cons_cons _ (.cons_cons _ (.slnil))))))) ?_
          refine At.perm sel3 ?_
          refine At.perm sel1 ?_
          refine At.perm sel3 ?_
          refine At.perm sel3 ?_
          refine At.ret1 (L1 := [Nl, Ny]) rfl (.cell rfl (res_agg (ds := [_, _, _]) ag25 B6 rfl rfl mem0) .nil) (.cons _ (.refl _)) (.refl _) ?_
          refine ⟨Nl, Ny, ⟨true, a18, (bs.take 400).length, p18, ai, ni, ci⟩, .mk true (bs.take 400) its', lf, rfl, rfl, Bl, ItN.mk (s18.le Ny1) ((sr.le Nx1).le Ny2) ((hs.le Nx2).le Ny2), by simp only [It.depth]; omega, ?_, by omega⟩
          simp only [sizeT]; omega
      · refine op_skip rfl rfl rfl rfl rfl rfl rfl ?_
        refine op_skip rfl rfl rfl rfl rfl rfl rfl ?_
        refine op_skip rfl rfl rfl rfl rfl rfl rfl ?_
        refine op_skip rfl rfl rfl rfl rfl rfl rfl ?_
        refine op_pickF (nxlf rfl) rfl rfl rfl ?_
        refine At.opsNil ?_
        refine At.norm (hk_10 ?_)
        refine At.condF rfl ?_
        refine At.exit (At.thenExit (At.thenExit (At.inHit ?_)))
        refine At.norm (hk_7 ?_)
        refine At.seq fun K13 hk_13 => ?_
        refine At.region ?_
        refine op_loadAggB (ds := [_, _, _]) (nxlf rfl) ag25 rfl B7 rfl rfl mem2 rfl ?_
        refine op_store (nxl rfl) sz25 rfl rfl rfl rfl rfl B6 (by simp) sel1 (fun N6 B6 => ?_)
        simp only [setL, List.set] at B6
        refine At.opsNil ?_
        refine At.norm (hk_13 ?_)
        refine At.ret (?_)
        refine At.perm sel7 ?_
        refine At.perm sel7 ?_
        refine At.perm sel7 ?_
        refine At.perm sel5 ?_
        refine At.perm sel5 ?_
        refine At.perm sel5 ?_
        refine At.perm sel7 ?_
        refine At.perm sel7 ?_
        refine At.mergeN (fun Nx Nx1 Nx2 => ?_)
        refine At.perm sel6 ?_
        refine At.perm sel5 ?_
        refine At.perm sel5 ?_
        refine At.perm sel5 ?_
        refine At.perm sel5 ?_
        refine At.perm sel5 ?_
        refine At.perm sel6 ?_
        refine At.mergeN (fun Ny Ny1 Ny2 => ?_)
        refine At.sub (L' := [Ny, N6, Nl, R]) (.cons_cons _ (.cons_cons _ (.cons _ (.cons _ (.cons_cons _ (.cons_cons _ (.slnil))))))) ?_
        refine At.perm sel3 ?_
        refine At.perm sel1 ?_
        refine At.perm sel3 ?_
        refine At.perm sel3 ?_
        refine At.ret1 (L1 := [Nl, Ny]) rfl (.cell rfl (res_agg (ds := [_, _, _]) ag25 B6 rfl rfl mem0) .nil) (.cons _ (.refl _)) (.refl _) ?_
        refine ⟨Nl, Ny, ⟨true, a18, (bs.take 400).length, p18, ai, ni, ci⟩, .mk true (bs.take 400) its', lf, rfl, rfl, Bl, ItN.mk (s18.le Ny1) ((sr.le Nx1).le Ny2) ((hs.le Nx2).le Ny2), by simp only [It.depth]; omega, ?_, by omega⟩
        simp only [sizeT]; omega
theorem cut_law_f {N : Heaplet} {t : It} {x : IV} (h : ItN N t x) :
    Fn Try.prog 12 #[.agg #[.bool x.l, .slice x.ab x.nb x.cb, .slice x.ai x.ni x.ci]] [] [N] (fun v L => ∃ M, ∃ y : IV, ∃ t', v = .agg #[.bool y.l, .slice y.ab y.nb y.cb, .slice y.ai y.ni y.ci] ∧ L = [M] ∧ ItN M t' y ∧ t'.depth ≤ 1101 ∧ sizeT t' ≤ 1227000) := by
  refine Fn.enter (vs := [.agg #[.bool x.l, .slice x.ab x.nb x.cb, .slice x.ai x.ni x.ci]]) Try.func12 rfl rfl rfl ?_
  intro E R hR
  have h := h.le (hR N (by simp))
  change At _ _ E [R] _
  refine At.seq fun K1 hk_1 => ?_
  refine At.region ?_
  refine op_box (nxla rfl) rfl rfl rfl (fun N1 b1 B1 => ?_)
  refine op_alloc (nxla rfl) ze25 rfl (fun N2 b2 B2 => ?_)
  change Blk N2 b2 _ [.bool false, .slice none 0 0, .slice none 0 0] at B2
  refine At.opsNil ?_
  refine At.norm (hk_1 ?_)
  refine At.seq fun K2 hk_2 => ?_
  refine At.region ?_
  refine op_alloc (nxla rfl) ze3 rfl (fun N3 b3 B3 => ?_)
  change Blk N3 b3 _ [.int .i64 0] at B3
  refine op_store (nxl rfl) sz3 rfl rfl rfl rfl rfl B3 (by simp) sel0 (fun N3 B3 => ?_)
  simp only [setL, List.set] at B3
  refine At.opsNil ?_
  refine At.norm (hk_2 ?_)
  refine At.seq fun K3 hk_3 => ?_
  refine At.region ?_
  refine op_loadAggB (ds := [_, _, _]) (nxlf rfl) ag25 rfl B1 rfl rfl mem2 rfl ?_
  refine op_call (nxl rfl) (.cons rfl (.cons rfl (.cons rfl .nil))) (Twin_f t R N3 x b3 1100 3000 1100 h B3 (by omega) (by omega) (by omega) (by omega)) (F := [N2, N1, R]) Try.func25 rfl rfl (.refl _) (by simp) rfl ?_
  rintro v5 L5 ⟨N3, M5, y, t', l', rfl, rfl, B3, hy, hd, hsz, hlt⟩
  change At _ _ _ [N3, M5, N2, N1, R] _
  refine op_store (nxl rfl) sz25 rfl rfl rfl rfl rfl B2 (by simp) sel2 (fun N2 B2 => ?_)
  simp only [setL, List.set] at B2
  refine At.opsNil ?_
  refine At.norm (hk_3 ?_)
  refine At.ret (?_)
  refine At.sub (L' := [N2, M5, R]) (.cons_cons _ (.cons _ (.cons_cons _ (.cons _ (.cons_cons _ (.slnil)))))) ?_
  refine At.ret1 (L1 := [M5]) rfl (.cell rfl (res_agg (ds := [_, _, _]) ag25 B2 rfl rfl mem0) .nil) (.cons _ (.refl _)) (.refl _) ?_
  exact ⟨M5, y, t', rfl, rfl, hy, hd, by omega⟩
end Go.Proofs.Ytohmmgggaegbbaa
