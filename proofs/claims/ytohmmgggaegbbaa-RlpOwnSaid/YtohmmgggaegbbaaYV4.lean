/- quarrylaw05.Same, the reference's Decode; quarrylaw05.RlpDecode answers true. No condition but that bytes are not longer than a machine holds. -/
import Derived.Test.YtohmmgggaegbbaaYV2
namespace Go.Proofs.Ytohmmgggaegbbaa
set_option linter.unusedVariables false
set_option linter.unusedSimpArgs false
open Go Go.RowKit
mutual
/-- The same item? -/
def It.same : It → It → Bool
  | .mk l bs its, .mk l' bs' its' => decide (l = l') && (decide (bs = bs') && It.sames its its')
def It.sames : List It → List It → Bool
  | [], [] => true
  | t :: ts, u :: us => It.same t u && It.sames ts us
  | _, _ => false
end
theorem sames_length {a b : List It} (h : a.length ≠ b.length) : It.sames a b = false := by
  induction a generalizing b with
  | nil => cases b with
    | nil => simp at h
    | cons u us => simp [It.sames]
  | cons t ts ih => cases b with
    | nil => simp [It.sames]
    | cons u us => simp only [It.sames]; rw [ih (by simpa using h)]; simp
theorem sames_drop {a b : List It} {k : Nat} {t u : It} (ha : a[k]? = some t) (hb : b[k]? = some u) : It.sames (a.drop k) (b.drop k) = (It.same t u && It.sames (a.drop (k + 1)) (b.drop (k + 1))) := by
  obtain ⟨h1, rfl⟩ := List.getElem?_eq_some_iff.1 ha
  obtain ⟨h2, rfl⟩ := List.getElem?_eq_some_iff.1 hb
  rw [List.drop_eq_getElem_cons h1, List.drop_eq_getElem_cons h2, It.sames]
mutual
theorem It.same_self : ∀ t : It, It.same t t = true
  | .mk l bs its => by simp [It.same, It.sames_self its]
theorem It.sames_self : ∀ ts : List It, It.sames ts ts = true
  | [] => by simp [It.sames]
  | t :: ts => by simp [It.sames, It.same_self t, It.sames_self ts]
end
theorem Same_f (t : It) : ∀ (u : It) (N M : Heaplet) (x y : IV), ItN N t x → ItN M u y → Fn Try.prog 19 #[.agg #[.bool x.l, .slice x.ab x.nb x.cb, .slice x.ai x.ni x.ci], .agg #[.bool y.l, .slice y.ab y.nb y.cb, .slice y.ai y.ni y.ci]] [] [N, M] (fun v L => v = .bool (t.same u) ∧ L = []) := by
  induction t using It.ind_it with | h l bs its ih => ?_
  intro u N M x y h k
  obtain ⟨l', bs', its'⟩ := u
  simp only [ItN] at h k
  obtain ⟨rfl, h1, xs, hI, hX⟩ := h
  obtain ⟨rfl, k1, ys, kI, kX⟩ := k
  have hn : xs.length = x.ni := by have := hI.1; rw [length_cellsI] at this; omega
  have kn : ys.length = y.ni := by have := kI.1; rw [length_cellsI] at this; omega
  have hn2 := hX.length
  have kn2 := kX.length
  have hcap := hI.cap63
  have kcap := kI.cap63
  refine Fn.enter (vs := [.agg #[.bool x.l, .slice x.ab x.nb x.cb, .slice x.ai x.ni x.ci], .agg #[.bool y.l, .slice y.ab y.nb y.cb, .slice y.ai y.ni y.ci]]) Try.func19 rfl rfl rfl ?_
  intro E R hR
  have h1 := h1.le (hR N (by simp))
  have hI := hI.le (hR N (by simp))
  have hX := hX.le (hR N (by simp))
  have k1 := k1.le (hR M (by simp))
  have kI := kI.le (hR M (by simp))
  have kX := kX.le (hR M (by simp))
  change At _ _ E [R] _
  refine At.seq fun K1 hk_1 => ?_
  refine At.region ?_
  refine op_box (nxla rfl) rfl rfl rfl (fun N2 b2 B2 => ?_)
  refine op_box (nxla rfl) rfl rfl rfl (fun N3 b3 B3 => ?_)
  refine op_assign (nxlf rfl) rfl rfl ?_
  refine At.opsNil ?_
  refine At.norm (hk_1 ?_)
  refine At.seq fun K2 hk_2 => ?_
  refine At.seq fun K3 hk_3 => ?_
  refine At.region ?_
  refine op_fieldAddr (nxlf rfl) fl25_0 rfl rfl ?_
  refine op_loadB (nxlf rfl) sc4 rfl B2 (by first | rfl) mem1 rfl ?_
  refine op_fieldAddr (nxlf rfl) fl25_0 rfl rfl ?_
  refine op_loadB (nxlf rfl) sc4 rfl B3 (by first | rfl) mem0 rfl ?_
  refine op_neB (nxlf rfl) Try.underlying4 rfl rfl rfl ?_
  refine op_move (nxlf rfl) rfl rfl ?_
  refine At.part (d := 11) rfl (fun g11 => ?_) (fun g11 => ?_)
  · refine op_skip rfl rfl rfl rfl rfl rfl rfl ?_
    refine op_skip rfl rfl rfl rfl rfl rfl rfl ?_
    refine op_skip rfl rfl rfl rfl rfl rfl rfl ?_
    refine op_skip rfl rfl rfl rfl rfl rfl rfl ?_
    refine op_skip rfl rfl rfl rfl rfl rfl rfl ?_
    refine op_skip rfl rfl rfl rfl rfl rfl rfl ?_
    refine op_skip rfl rfl rfl rfl rfl rfl rfl ?_
    refine op_pickT (nxlf rfl) rfl rfl rfl ?_
    refine op_move (nxlf rfl) rfl rfl ?_
    refine op_skip rfl rfl rfl rfl rfl rfl rfl ?_
    refine op_skip rfl rfl rfl rfl rfl rfl rfl ?_
    refine op_skip rfl rfl rfl rfl rfl rfl rfl ?_
    refine op_skip rfl rfl rfl rfl rfl rfl rfl ?_
    refine op_skip rfl rfl rfl rfl rfl rfl rfl ?_
    refine op_skip rfl rfl rfl rfl rfl rfl rfl ?_
    refine op_skip rfl rfl rfl rfl rfl rfl rfl ?_
    refine op_pickT (nxlf rfl) rfl rfl rfl ?_
    refine At.opsNil ?_
    refine At.norm (hk_3 ?_)
    refine At.condT rfl ?_
    refine At.seq fun K4 hk_4 => ?_
    refine At.region ?_
    refine op_assign (nxlf rfl) rfl rfl ?_
    refine At.opsNil ?_
    refine At.norm (hk_4 ?_)
    refine At.ret (At.thenRet (?_))
    refine At.sub (L' := [R]) (.cons _ (.cons _ (.cons_cons _ (.slnil)))) ?_
    refine At.ret1 (L1 := []) rfl (.tmp rfl .nil) (.refl _) (.refl _) ?_
    exact ⟨by have e1 : ¬ x.l = y.l := (by simpa using g11); simp [It.same, e1], rfl⟩
  · refine op_fieldAddr (nxgf rfl rfl rfl rfl) fl25_1 rfl rfl ?_
    refine op_loadB (nxgf rfl rfl rfl rfl) sc22 rfl B2 (by first | rfl) mem1 rfl ?_
    refine op_str (nxgf rfl rfl rfl rfl) Try.underlying22 Try.underlying5 Try.underlying9 rfl (by assumption) (by first | exact mem0 | exact mem1 | exact mem2 | exact mem3 | exact mem4 | exact mem5 | exact mem6 | exact mem7 | exact mem8 | exact mem9) rfl ?_
    refine op_fieldAddr (nxgf rfl rfl rfl rfl) fl25_1 rfl rfl ?_
    refine op_loadB (nxgf rfl rfl rfl rfl) sc22 rfl B3 (by first | rfl) mem0 rfl ?_
    refine op_str (nxgf rfl rfl rfl rfl) Try.underlying22 Try.underlying5 Try.underlying9 rfl (by assumption) (by first | exact mem0 | exact mem1 | exact mem2 | exact mem3 | exact mem4 | exact mem5 | exact mem6 | exact mem7 | exact mem8 | exact mem9) rfl ?_
    refine op_neS (nxgf rfl rfl rfl rfl) rfl rfl rfl ?_
    refine op_pickF (nxlf rfl) rfl rfl rfl ?_
    refine op_move (nxlf rfl) rfl rfl ?_
    refine At.partP (d := 20) rfl (fun g20 => ?_) (fun g20 => ?_)
    · refine op_skip rfl rfl rfl rfl rfl rfl rfl ?_
      refine op_skip rfl rfl rfl rfl rfl rfl rfl ?_
      refine op_skip rfl rfl rfl rfl rfl rfl rfl ?_
      refine op_skip rfl rfl rfl rfl rfl rfl rfl ?_
      refine op_skip rfl rfl rfl rfl rfl rfl rfl ?_
      refine op_skip rfl rfl rfl rfl rfl rfl rfl ?_
      refine op_skip rfl rfl rfl rfl rfl rfl rfl ?_
      refine op_pickT (nxlf rfl) rfl rfl rfl ?_
      refine At.opsNil ?_
      refine At.norm (hk_3 ?_)
      refine At.condT rfl ?_
      refine At.seq fun K5 hk_5 => ?_
      refine At.region ?_
      refine op_assign (nxlf rfl) rfl rfl ?_
      refine At.opsNil ?_
      refine At.norm (hk_5 ?_)
      refine At.ret (At.thenRet (?_))
      refine At.sub (L' := [R]) (.cons _ (.cons _ (.cons_cons _ (.slnil)))) ?_
      refine At.ret1 (L1 := []) rfl (.tmp rfl .nil) (.refl _) (.refl _) ?_
      exact ⟨by simp [It.same, g20], rfl⟩
    · refine op_fieldAddr (nxgf rfl rfl rfl rfl) fl25_2 rfl rfl ?_
      refine op_loadB (nxgf rfl rfl rfl rfl) sc23 rfl B2 (by first | rfl) mem1 rfl ?_
      refine op_lenS (nxgf rfl rfl rfl rfl) se23 rfl rfl ?_
      refine op_fieldAddr (nxgf rfl rfl rfl rfl) fl25_2 rfl rfl ?_
      refine op_loadB (nxgf rfl rfl rfl rfl) sc23 rfl B3 (by first | rfl) mem0 rfl ?_
      refine op_lenS (nxgf rfl rfl rfl rfl) se23 rfl rfl ?_
      refine op_neq (nxgf rfl rfl rfl rfl) rfl rfl rfl ?_
      refine op_pickF (nxlf rfl) rfl rfl rfl ?_
      refine At.opsNil ?_
      refine At.norm (hk_3 ?_)
      refine At.condP rfl (fun c28 => ?_) (fun c28 => ?_)
      · refine At.seq fun K6 hk_6 => ?_
        refine At.region ?_
        refine op_assign (nxlf rfl) rfl rfl ?_
        refine At.opsNil ?_
        refine At.norm (hk_6 ?_)
        refine At.ret (At.thenRet (?_))
        refine At.sub (L' := [R]) (.cons _ (.cons _ (.cons_cons _ (.slnil)))) ?_
        refine At.ret1 (L1 := []) rfl (.tmp rfl .nil) (.refl _) (.refl _) ?_
        exact ⟨by rw [It.same, sames_length (by omega)]; simp, rfl⟩
      · refine At.skip ?_
        refine At.norm (hk_2 ?_)
        refine At.seq fun K7 hk_7 => ?_
        refine At.seq fun K8 hk_8 => ?_
        refine At.region ?_
        refine op_assign (nxlf rfl) rfl rfl ?_
        refine At.opsNil ?_
        refine At.norm (hk_8 ?_)
        refine At.block ?_
        refine At.loop (fun fr_ hp_ ms_ => ∃ (i : Nat), fr_ = [(2, .pointer (some ⟨b2, 0, none⟩)), (3, .pointer (some ⟨b3, 0, none⟩)), (5, .int .i64 (i : Int))] ∧ hp_ = [N3, N2, R] ∧ x.ni - i = ms_ ∧ (i ≤ x.ni) ∧ ((It.mk x.l bs its).same (.mk y.l bs' its') = It.sames (its.drop i) (its'.drop i))) ?_ (.refl _) ⟨0, rfl, rfl, rfl, by omega, by (have e1 : x.l = y.l := (by simpa using g11); have e2 : bs = bs' := (by simpa using g20); simp [It.same, e1, e2])⟩ ?_
        · exact .cons (by first | exact lkI rfl (by omega) | rfl) (.cons (by first | exact lkI rfl (by omega) | rfl) (.cons (by first | exact lkI rfl (by omega) | rfl) .nil))
        rintro _ _ _ ⟨i, rfl, rfl, rfl, hi, hs⟩
        refine At.seq fun K9 hk_9 => ?_
        refine At.seq fun K10 hk_10 => ?_
        refine At.region ?_
        refine op_move (nxlf rfl) rfl rfl ?_
        refine op_fieldAddr (nxlf rfl) fl25_2 rfl rfl ?_
        refine op_loadB (nxlf rfl) sc23 rfl B2 (by first | rfl) mem1 rfl ?_
        refine op_lenS (nxlf rfl) se23 rfl rfl ?_
        refine op_lss (nxlf rfl) rfl rfl rfl ?_
        refine At.opsNil ?_
        refine At.norm (hk_10 ?_)
        refine At.condP rfl (fun c33 => ?_) (fun c33 => ?_)
        · have hlt : i < its.length := by omega
          have klt : i < its'.length := by omega
          obtain ⟨z, hz, hzi⟩ := hX.get (List.getElem?_eq_getElem hlt)
          obtain ⟨z', kz, kzi⟩ := kX.get (List.getElem?_eq_getElem klt)
          refine At.skip ?_
          refine At.norm (hk_9 ?_)
          refine At.seq fun K11 hk_11 => ?_
          refine At.block ?_
          refine At.seq fun K12 hk_12 => ?_
          refine At.drawnS [N3, N2, R] [10] [] [0,1,2,3,4,5,6,7,8,9,10,11] (by kernel_rfl) (by kernel_rfl) (.refl _) ?_
          refine op_fieldAddr (nxsf rfl rfl rfl) fl25_2 rfl rfl ?_
          refine op_loadB (nxsf rfl rfl rfl) sc23 rfl B2 (by first | rfl) mem1 rfl ?_
          refine op_move (nxsf rfl rfl rfl) rfl rfl ?_
          refine op_idxE (nxsf rfl rfl rfl) se23 rfl rfl (by assumption) (show _ = (((i : Nat)) : Int) from by omega) (by omega) rfl ?_
          refine op_loadAggE (nxsf rfl rfl rfl) ag25 rfl (by assumption) (by exact cells_at hz) (by rfl) (by omega) (by first | exact mem0 | exact mem1 | exact mem2 | exact mem3 | exact mem4 | exact mem5 | exact mem6 | exact mem7 | exact mem8 | exact mem9) rfl ?_
          refine op_fieldAddr (nxsf rfl rfl rfl) fl25_2 rfl rfl ?_
          refine op_loadB (nxsf rfl rfl rfl) sc23 rfl B3 (by first | rfl) mem0 rfl ?_
          refine op_move (nxsf rfl rfl rfl) rfl rfl ?_
          refine op_idxE (nxsf rfl rfl rfl) se23 rfl rfl (by assumption) (show _ = (((i : Nat)) : Int) from by omega) (by omega) rfl ?_
          refine op_loadAggE (nxsf rfl rfl rfl) ag25 rfl (by assumption) (by exact cells_at kz) (by rfl) (by omega) (by first | exact mem0 | exact mem1 | exact mem2 | exact mem3 | exact mem4 | exact mem5 | exact mem6 | exact mem7 | exact mem8 | exact mem9) rfl ?_
          refine op_callA (Nx.agree (nxss rfl rfl rfl rfl)) (.cons rfl (.cons rfl .nil)) (ih its[i] (List.getElem_mem hlt) its'[i] R R z z' hzi kzi) Try.func19 rfl rfl (by simp) rfl ?_
          rintro v46 L46 ⟨rfl, rfl⟩
          change At _ _ _ [N3, N2, R] _
          refine At.anyS (.refl _) ?_
          refine op_not (nxsf rfl rfl rfl) rfl rfl ?_
          refine At.sNil ?_
          refine At.norm (hk_12 ?_)
          refine At.condB rfl (fun c47 => ?_) (fun c47 => ?_)
          · refine At.seq fun K13 hk_13 => ?_
            refine At.region ?_
            refine op_assign (nxlf rfl) rfl rfl ?_
            refine At.opsNil ?_
            refine At.norm (hk_13 ?_)
            refine At.ret (At.inRet (At.thenRet (At.thenRet (At.inRet (At.thenRet (?_))))))
            refine At.sub (L' := [R]) (.cons _ (.cons _ (.cons_cons _ (.slnil)))) ?_
            refine At.ret1 (L1 := []) rfl (.tmp rfl .nil) (.refl _) (.refl _) ?_
            exact ⟨by rw [hs, sames_drop (List.getElem?_eq_getElem hlt) (List.getElem?_eq_getElem klt), (by simpa using c47 : its[i].same its'[i] = false), Bool.false_and], rfl⟩
          · refine At.skip ?_
            refine At.inNorm ?_
            refine At.norm (hk_11 ?_)
            refine At.region ?_
            refine op_move (nxlf rfl) rfl rfl ?_
            refine op_addI (nxlf rfl) rfl rfl (by omega) (by omega) rfl ?_
            refine op_assign (nxlf rfl) rfl rfl ?_
            refine At.opsNil ?_
            refine At.norm ?_
            refine At.back ?_ (.refl _) ⟨i + 1, rfl, rfl, rfl, by omega, by rw [hs, sames_drop (List.getElem?_eq_getElem hlt) (List.getElem?_eq_getElem klt), (by simpa using c47 : its[i].same its'[i] = true), Bool.true_and]⟩ ?_
            · exact .cons (by first | exact lkI rfl (by omega) | rfl) (.cons (by first | exact lkI rfl (by omega) | rfl) (.cons (by first | exact lkI rfl (by omega) | rfl) .nil))
            · omega
        · refine At.exit (At.thenExit (At.thenExit (At.inHit ?_)))
          refine At.norm (hk_7 ?_)
          refine At.seq fun K14 hk_14 => ?_
          refine At.region ?_
          refine op_assign (nxlf rfl) rfl rfl ?_
          refine At.opsNil ?_
          refine At.norm (hk_14 ?_)
          refine At.ret (?_)
          refine At.sub (L' := [R]) (.cons _ (.cons _ (.cons_cons _ (.slnil)))) ?_
          refine At.ret1 (L1 := []) rfl (.tmp rfl .nil) (.refl _) (.refl _) ?_
          exact ⟨by rw [hs, List.drop_eq_nil_of_le (by omega), List.drop_eq_nil_of_le (by omega), It.sames], rfl⟩
end Go.Proofs.Ytohmmgggaegbbaa
