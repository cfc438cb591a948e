/- quarrylaw13.ForkNames answers true at a name of less than 2^45 bytes. Condition: Go's tables of white space and of UTF-8 are laid. -/
import Derived.Test.YtoabimaidpbkiaaDoorFN5
namespace Go.Proofs.YtoabimaidpbkiaaDoor
set_option linter.unusedVariables false
set_option linter.unusedSimpArgs false
open Go Go.RowKit
theorem low_up {q : List UInt8} {k : Nat} (h : k < q.length) (h1 : 97 ≤ ((q.getD k 0).toNat : Int)) (h2 : ((q.getD k 0).toNat : Int) ≤ 122) : (q.set k (q.getD k 0 - 32)).map lowB = q.map lowB := by
  obtain ⟨x, hx⟩ : ∃ x, q.getD k 0 = x := ⟨_, rfl⟩
  rw [hx] at h1 h2 ⊢
  have e1 : lowB (x - 32) = lowB x := by
    apply UInt8.toNat_inj.1
    rw [lowB_nat, lowB_nat, UInt8.toNat_sub, show (32 : UInt8).toNat = 32 from rfl]
    have := x.toNat_lt
    rw [if_pos (by omega), if_neg (by omega)]
    omega
  rw [List.map_set, e1]
  have e2 : (q.map lowB)[k]? = some (lowB x) := by
    rw [List.getElem?_map, List.getElem?_eq_getElem h]
    rw [List.getD_eq_getElem?_getD, List.getElem?_eq_getElem h, Option.getD_some] at hx
    rw [hx]; rfl
  have hl : k < (q.map lowB).length := by rw [List.length_map]; exact h
  rw [List.getElem?_eq_getElem hl] at e2
  rw [← Option.some.inj e2]
  exact List.set_getElem_self hl
theorem names_apart : ∀ f : Fin 16, ∀ j : Fin 16, j.1 < f.1 → lowNames.getD j.1 [] ≠ lowNames.getD f.1 [] := by decide +kernel
theorem names_full : ∀ f : Fin 16, lowNames.getD f.1 [] ≠ [] := by decide +kernel
theorem nth_fork {f : Nat} (hf : f < 16) : Nth lowNames ((nameL f).map lowB) (f : Int) := by
  have e : nameL f = namesL.getD f [] := (List.getD_eq_getElem?_getD ..).symm
  rw [e, ← lowNames_get]
  exact .inl ⟨f, hf, fun j hj => names_apart ⟨f, hf⟩ ⟨j, by omega⟩ hj, rfl, rfl⟩
theorem nth_none : Nth lowNames (([] : List UInt8).map lowB) (-1) := .inr ⟨fun k hk => names_full ⟨k, hk⟩, rfl⟩
theorem name_short (f : Nat) : (nameL f).length ≤ 35184372088 := by
  have h : namesL.all (fun q => decide (q.length ≤ 20)) = true := by decide +kernel
  unfold nameL
  cases e : namesL[f]? with
  | none => simp
  | some q =>
    have := of_decide_eq_true (List.all_eq_true.1 h q (List.mem_of_getElem? e))
    simp only [Option.getD_some]
    omega
set_option maxRecDepth 100000 in
set_option maxHeartbeats 4000000 in
theorem ForkNames_in {N : Heaplet} (hN : TabH N) (hU : TabU N) {s : List UInt8} (hs : s.length < 35184372088832) {f : Nat} (hf : f < 16) (tu : UInt32) : Fn Tryd.prog 7 #[str s, .int .i64 (f : Int), .int .u32 (tu.toNat : Int)] [] [N] (fun v L => v = .bool true ∧ L = []) := by
  obtain ⟨r, hr⟩ := Nth.exists lowNames (s.map lowB)
  have hne : (decide (0 ≤ r) != decide (0 ≤ r)) = false := bne_self_eq_false _
  obtain ⟨nm, hnm⟩ : ∃ nm, nameL f = nm := ⟨_, rfl⟩
  have hnl : nm.length ≤ 35184372088 := by rw [← hnm]; exact name_short _
  have hr2 : Nth lowNames (nm.map lowB) ((f : Int)) := by rw [← hnm]; exact nth_fork hf
  have h81 : decide ((f : Int) ≤ 15) = true := decide_eq_true (by omega)
  have h85 : (decide (0 ≤ (f : Int)) == true) = true := by rw [decide_eq_true (by omega)]; rfl
  have h92 : decide ((if 0 > (f : Int) then 0 else (f : Int)) = (f : Int)) = true := by rw [if_neg (by omega)]; exact decide_eq_true rfl
  refine Fn.enter (vs := [str s, .int .i64 (f : Int), .int .u32 (tu.toNat : Int)]) Tryd.func7 rfl rfl rfl ?_
  intro E R hR
  have hT := hN.le (hR N (by simp))
  have hU := hU.le (hR N (by simp))
  change At _ _ E [R] _
  refine At.seq fun K1 hk_1 => ?_
  refine At.region ?_
  refine op_assign (nxlf rfl) rfl rfl ?_
  refine At.opsNil ?_
  refine At.norm (hk_1 ?_)
  refine At.seq fun K2 hk_2 => ?_
  refine At.region ?_
  refine op_move (nxlf rfl) rfl rfl ?_
  refine op_callA (nxla rfl) (.cons rfl .nil) (FNamed_f hT hU hs hr) Tryd.func22 rfl rfl (by simp) rfl ?_
  rintro v18 L18 ⟨rfl, rfl⟩
  change At _ _ _ [R] _
  refine op_move (nxlf rfl) rfl rfl ?_
  refine op_extract (nxlf rfl) rfl rfl rfl ?_
  refine op_extract (nxlf rfl) rfl rfl rfl ?_
  refine op_assign (nxlf rfl) rfl rfl ?_
  refine op_assign (nxlf rfl) rfl rfl ?_
  refine At.opsNil ?_
  refine At.norm (hk_2 ?_)
  refine At.seq fun K3 hk_3 => ?_
  refine At.region ?_
  refine op_move (nxlf rfl) rfl rfl ?_
  refine op_callA (nxla rfl) (.cons rfl .nil) (rNamed_f hs hr) Tryd.func23 rfl rfl (by simp) rfl ?_
  rintro v23 L23 ⟨rfl, rfl⟩
  change At _ _ _ [R] _
  refine op_move (nxlf rfl) rfl rfl ?_
  refine op_extract (nxlf rfl) rfl rfl rfl ?_
  refine op_extract (nxlf rfl) rfl rfl rfl ?_
  refine op_assign (nxlf rfl) rfl rfl ?_
  refine op_assign (nxlf rfl) rfl rfl ?_
  refine At.opsNil ?_
  refine At.norm (hk_3 ?_)
  refine At.seq fun K4 hk_4 => ?_
  refine At.seq fun K5 hk_5 => ?_
  refine At.region ?_
  refine op_move (nxlf rfl) rfl rfl ?_
  refine op_move (nxlf rfl) rfl rfl ?_
  refine op_neq (nxlf rfl) rfl rfl rfl ?_
  refine op_move (nxlf rfl) rfl rfl ?_
  refine At.partP (d := 29) rfl (fun g29 => ?_) (fun g29 => ?_)
  · exact absurd rfl g29
  · refine op_move (nxgf rfl rfl rfl rfl) rfl rfl ?_
    refine op_move (nxgf rfl rfl rfl rfl) rfl rfl ?_
    refine op_neB (nxgf rfl rfl rfl rfl) Tryd.underlying4 rfl rfl rfl ?_
    rw [hne]
    refine op_pickF (nxlf rfl) rfl rfl rfl ?_
    refine At.opsNil ?_
    refine At.norm (hk_5 ?_)
    refine At.condF rfl ?_
    refine At.skip ?_
    refine At.norm (hk_4 ?_)
    refine At.seq fun K6 hk_6 => ?_
    refine At.region ?_
    refine op_move (nxlf rfl) rfl rfl ?_
    refine op_callA (nxla rfl) (.cons rfl .nil) (FName_f hT f hf) Tryd.func10 rfl rfl (by simp) rfl ?_
    rintro v35 L35 ⟨rfl, rfl⟩
    change At _ _ _ [R] _
    rw [hnm]
    refine op_strB (nxla rfl) Tryd.underlying9 Tryd.underlying57 Tryd.underlying5 rfl (by omega) rfl (fun N36 b36 p36 m36 => ?_)
    have s36 := m36.rsl
    refine op_assign (nxlf rfl) rfl rfl ?_
    refine At.opsNil ?_
    refine At.norm (hk_6 ?_)
    refine At.seq fun K7 hk_7 => ?_
    refine At.seq fun K8 hk_8 => ?_
    refine At.region ?_
    refine op_assign (nxlf rfl) rfl rfl ?_
    refine At.opsNil ?_
    refine At.norm (hk_8 ?_)
    refine At.block ?_
    refine At.loop (fun fr_ hp_ ms_ => ∃ (k : Nat) (q : List UInt8) (N36 : Heaplet), fr_ = [(1, .int .i64 (f : Int)), (2, .int .u32 (tu.toNat : Int)), (11, .slice (some ⟨b36, 0, none⟩) nm.length p36), (12, .int .i64 (k : Int))] ∧ hp_ = [N36, R] ∧ nm.length - k = ms_ ∧ (k ≤ nm.length) ∧ (q.length = nm.length) ∧ (q.map lowB = nm.map lowB) ∧ (RowM N36 5 b36 nm.length p36 (u8s q))) ?_ (.refl _) ⟨0, nm, N36, rfl, rfl, rfl, by omega, rfl, rfl, m36⟩ ?_
    · exact .cons (by first | exact lkI rfl (by omega) | rfl) (.cons (by first | exact lkI rfl (by omega) | rfl) (.cons (by first | exact lkI rfl (by omega) | rfl) (.cons (by first | exact lkI rfl (by omega) | rfl) .nil)))
    rintro _ _ _ ⟨k, q, N36, rfl, rfl, rfl, hk, hql, hq, m36⟩
    have s36 := m36.rsl
    have c36 := s36.cap63
    refine At.seq fun K9 hk_9 => ?_
    refine At.seq fun K10 hk_10 => ?_
    refine At.region ?_
    refine op_move (nxlf rfl) rfl rfl ?_
    refine op_move (nxlf rfl) rfl rfl ?_
    refine op_lenS (nxlf rfl) se57 rfl rfl ?_
    refine op_lss (nxlf rfl) rfl rfl rfl ?_
    refine At.opsNil ?_
    refine At.norm (hk_10 ?_)
    refine At.condP rfl (fun c40 => ?_) (fun c40 => ?_)
    · refine At.skip ?_
      refine At.norm (hk_9 ?_)
      refine At.seq fun K11 hk_11 => ?_
      refine At.block ?_
      refine At.seq fun K12 hk_12 => ?_
      refine At.region ?_
      refine op_move (nxlf rfl) rfl rfl ?_
      refine op_move (nxlf rfl) rfl rfl ?_
      refine op_rem (nxlf rfl) rfl rfl (by omega) (by omega) rfl ?_
      refine op_shrU32 (nxlf rfl) rfl rfl (show _ = (((k % 32 : Nat)) : Int) from by omega) rfl ?_
      refine op_andU32 (b := 1) (nxlf rfl) rfl rfl rfl ?_
      refine op_eql (nxlf rfl) rfl rfl rfl ?_
      refine op_move (nxlf rfl) rfl rfl ?_
      refine At.partP (d := 49) rfl (fun g49 => ?_) (fun g49 => ?_)
      · refine op_move (nxgf rfl rfl rfl rfl) rfl rfl ?_
        refine op_move (nxgf rfl rfl rfl rfl) rfl rfl ?_
        refine op_idx1 (nxgf rfl rfl rfl rfl) se57 rfl rfl s36 (show _ = (((k : Nat)) : Int) from by omega) (by omega) rfl ?_
        refine op_loadE (nxgf rfl rfl rfl rfl) sc5 rfl s36 (by first | exact get8 (by omega) | exact get64 (by omega) | exact get32 (by omega)) (by first | exact mem0 | exact mem1 | exact mem2 | exact mem3 | exact mem4 | exact mem5 | exact mem6 | exact mem7 | exact mem8 | exact mem9) rfl ?_
        refine op_geq (nxgf rfl rfl rfl rfl) rfl rfl rfl ?_
        refine op_pickT (nxlf rfl) rfl rfl rfl ?_
        refine op_move (nxlf rfl) rfl rfl ?_
        refine At.partP (d := 56) rfl (fun g56 => ?_) (fun g56 => ?_)
        · refine op_move (nxgf rfl rfl rfl rfl) rfl rfl ?_
          refine op_move (nxgf rfl rfl rfl rfl) rfl rfl ?_
          refine op_idx1 (nxgf rfl rfl rfl rfl) se57 rfl rfl s36 (show _ = (((k : Nat)) : Int) from by omega) (by omega) rfl ?_
          refine op_loadE (nxgf rfl rfl rfl rfl) sc5 rfl s36 (by first | exact get8 (by omega) | exact get64 (by omega) | exact get32 (by omega)) (by first | exact mem0 | exact mem1 | exact mem2 | exact mem3 | exact mem4 | exact mem5 | exact mem6 | exact mem7 | exact mem8 | exact mem9) rfl ?_
          refine op_leq (nxgf rfl rfl rfl rfl) rfl rfl rfl ?_
          refine op_pickT (nxlf rfl) rfl rfl rfl ?_
          refine At.opsNil ?_
          refine At.norm (hk_12 ?_)
          refine At.condP rfl (fun c62 => ?_) (fun c62 => ?_)
          · refine At.region ?_
            refine op_move (nxlf rfl) rfl rfl ?_
            refine op_move (nxlf rfl) rfl rfl ?_
            refine op_move (nxlf rfl) rfl rfl ?_
            refine op_move (nxlf rfl) rfl rfl ?_
            refine op_idx1 (nxlf rfl) se57 rfl rfl s36 (show _ = (((k : Nat)) : Int) from by omega) (by omega) rfl ?_
            refine op_loadE (nxlf rfl) sc5 rfl s36 (by first | exact get8 (by omega) | exact get64 (by omega) | exact get32 (by omega)) (by first | exact mem0 | exact mem1 | exact mem2 | exact mem3 | exact mem4 | exact mem5 | exact mem6 | exact mem7 | exact mem8 | exact mem9) rfl ?_
            refine op_subW (nxlf rfl) rfl rfl rfl ?_
            refine op_idx1 (nxlf rfl) se57 rfl rfl s36 (show _ = (((k : Nat)) : Int) from by omega) (by omega) rfl ?_
            refine op_storeM (nxl rfl) sz5 rfl rfl rfl rfl m36 (by rw [length_u8s]; omega) sel0 (fun N36 m36 => ?_)
            simp only [setL] at m36
            rw [sub32w, set_u8s] at m36
            have s36 := m36.rsl
            refine At.opsNil ?_
            refine At.inNorm ?_
            refine At.norm (hk_11 ?_)
            refine At.region ?_
            refine op_move (nxlf rfl) rfl rfl ?_
            refine op_addI (nxlf rfl) rfl rfl (by omega) (by omega) rfl ?_
            refine op_assign (nxlf rfl) rfl rfl ?_
            refine At.opsNil ?_
            refine At.norm ?_
            refine At.back ?_ (.refl _) ⟨k + 1, q.set k (q.getD k 0 - 32), N36, rfl, rfl, rfl, by omega, by rw [List.length_set]; exact hql, (low_up (by omega) g56 c62).trans hq, m36⟩ ?_
            · exact .cons (by first | exact lkI rfl (by omega) | rfl) (.cons (by first | exact lkI rfl (by omega) | rfl) (.cons (by first | exact lkI rfl (by omega) | rfl) (.cons (by first | exact lkI rfl (by omega) | rfl) .nil)))
            · omega
          · refine At.skip ?_
            refine At.inNorm ?_
            refine At.norm (hk_11 ?_)
            refine At.region ?_
            refine op_move (nxlf rfl) rfl rfl ?_
            refine op_addI (nxlf rfl) rfl rfl (by omega) (by omega) rfl ?_
            refine op_assign (nxlf rfl) rfl rfl ?_
            refine At.opsNil ?_
            refine At.norm ?_
            refine At.back ?_ (.refl _) ⟨k + 1, q, N36, rfl, rfl, rfl, by omega, hql, hq, m36⟩ ?_
            · exact .cons (by first | exact lkI rfl (by omega) | rfl) (.cons (by first | exact lkI rfl (by omega) | rfl) (.cons (by first | exact lkI rfl (by omega) | rfl) (.cons (by first | exact lkI rfl (by omega) | rfl) .nil)))
            · omega
        · refine op_skip rfl rfl rfl rfl rfl rfl rfl ?_
          refine op_skip rfl rfl rfl rfl rfl rfl rfl ?_
          refine op_skip rfl rfl rfl rfl rfl rfl rfl ?_
          refine op_skip rfl rfl rfl rfl rfl rfl rfl ?_
          refine op_skip rfl rfl rfl rfl rfl rfl rfl ?_
          refine op_pickF (nxlf rfl) rfl rfl rfl ?_
          refine At.opsNil ?_
          refine At.norm (hk_12 ?_)
          refine At.condF rfl ?_
          refine At.skip ?_
          refine At.inNorm ?_
          refine At.norm (hk_11 ?_)
          refine At.region ?_
          refine op_move (nxlf rfl) rfl rfl ?_
          refine op_addI (nxlf rfl) rfl rfl (by omega) (by omega) rfl ?_
          refine op_assign (nxlf rfl) rfl rfl ?_
          refine At.opsNil ?_
          refine At.norm ?_
          refine At.back ?_ (.refl _) ⟨k + 1, q, N36, rfl, rfl, rfl, by omega, hql, hq, m36⟩ ?_
          · exact .cons (by first | exact lkI rfl (by omega) | rfl) (.cons (by first | exact lkI rfl (by omega) | rfl) (.cons (by first | exact lkI rfl (by omega) | rfl) (.cons (by first | exact lkI rfl (by omega) | rfl) .nil)))
          · omega
      · refine op_skip rfl rfl rfl rfl rfl rfl rfl ?_
        refine op_skip rfl rfl rfl rfl rfl rfl rfl ?_
        refine op_skip rfl rfl rfl rfl rfl rfl rfl ?_
        refine op_skip rfl rfl rfl rfl rfl rfl rfl ?_
        refine op_skip rfl rfl rfl rfl rfl rfl rfl ?_
        refine op_pickF (nxlf rfl) rfl rfl rfl ?_
        refine op_move (nxlf rfl) rfl rfl ?_
        refine op_skip rfl rfl rfl rfl rfl rfl rfl ?_
        refine op_skip rfl rfl rfl rfl rfl rfl rfl ?_
        refine op_skip rfl rfl rfl rfl rfl rfl rfl ?_
        refine op_skip rfl rfl rfl rfl rfl rfl rfl ?_
        refine op_skip rfl rfl rfl rfl rfl rfl rfl ?_
        refine op_pickF (nxlf rfl) rfl rfl rfl ?_
        refine At.opsNil ?_
        refine At.norm (hk_12 ?_)
        refine At.condF rfl ?_
        refine At.skip ?_
        refine At.inNorm ?_
        refine At.norm (hk_11 ?_)
        refine At.region ?_
        refine op_move (nxlf rfl) rfl rfl ?_
        refine op_addI (nxlf rfl) rfl rfl (by omega) (by omega) rfl ?_
        refine op_assign (nxlf rfl) rfl rfl ?_
        refine At.opsNil ?_
        refine At.norm ?_
        refine At.back ?_ (.refl _) ⟨k + 1, q, N36, rfl, rfl, rfl, by omega, hql, hq, m36⟩ ?_
        · exact .cons (by first | exact lkI rfl (by omega) | rfl) (.cons (by first | exact lkI rfl (by omega) | rfl) (.cons (by first | exact lkI rfl (by omega) | rfl) (.cons (by first | exact lkI rfl (by omega) | rfl) .nil)))
        · omega
    · refine At.exit (At.thenExit (At.thenExit (At.inHit ?_)))
      refine At.norm (hk_7 ?_)
      refine At.seq fun K13 hk_13 => ?_
      refine At.region ?_
      refine op_move (nxlf rfl) rfl rfl ?_
      refine op_str (nxlf rfl) Tryd.underlying57 Tryd.underlying5 Tryd.underlying9 rfl (by assumption) (by first | exact mem0 | exact mem1 | exact mem2 | exact mem3 | exact mem4 | exact mem5 | exact mem6 | exact mem7 | exact mem8 | exact mem9) rfl ?_
      refine op_callA (nxla rfl) (.cons rfl .nil) (FNamed_f (s := q) hT hU (by omega) (hq.symm ▸ hr2)) Tryd.func22 rfl rfl (by simp) rfl ?_
      rintro v74 L74 ⟨rfl, rfl⟩
      change At _ _ _ [N36, R] _
      refine op_move (nxlf rfl) rfl rfl ?_
      refine op_extract (nxlf rfl) rfl rfl rfl ?_
      refine op_extract (nxlf rfl) rfl rfl rfl ?_
      refine op_assign (nxlf rfl) rfl rfl ?_
      refine op_assign (nxlf rfl) rfl rfl ?_
      refine At.opsNil ?_
      refine At.norm (hk_13 ?_)
      refine At.seq fun K14 hk_14 => ?_
      refine At.region ?_
      refine op_move (nxlf rfl) rfl rfl ?_
      refine op_geq (nxlf rfl) rfl rfl rfl ?_
      refine op_move (nxlf rfl) rfl rfl ?_
      refine At.partP (d := 79) rfl (fun g79 => ?_) (fun g79 => ?_)
      · refine op_move (nxgf rfl rfl rfl rfl) rfl rfl ?_
        refine op_leq (nxgf rfl rfl rfl rfl) rfl rfl rfl ?_
        rw [h81]
        refine op_pickT (nxlf rfl) rfl rfl rfl ?_
        refine op_assign (nxlf rfl) rfl rfl ?_
        refine At.opsNil ?_
        refine At.norm (hk_14 ?_)
        refine At.seq fun K15 hk_15 => ?_
        refine At.region ?_
        refine op_move (nxlf rfl) rfl rfl ?_
        refine op_move (nxlf rfl) rfl rfl ?_
        refine op_eqB (nxlf rfl) Tryd.underlying4 rfl rfl rfl ?_
        rw [h85]
        refine op_move (nxlf rfl) rfl rfl ?_
        refine op_move (nxgf rfl rfl rfl rfl) rfl rfl ?_
        refine op_not (nxgf rfl rfl rfl rfl) rfl rfl ?_
        refine op_move (nxgf rfl rfl rfl rfl) rfl rfl ?_
        refine op_move (nxgf rfl rfl rfl rfl) rfl rfl ?_
        refine op_move (nxgf rfl rfl rfl rfl) rfl rfl ?_
        refine op_eql (nxgf rfl rfl rfl rfl) rfl rfl rfl ?_
        rw [h92]
        refine op_pickF (nxgf rfl rfl rfl rfl) rfl rfl rfl ?_
        refine op_pickT (nxlf rfl) rfl rfl rfl ?_
        refine op_move (nxlf rfl) rfl rfl ?_
        refine op_callA (nxga rfl rfl rfl rfl) .nil (Fwakes_f hT) Tryd.func12 rfl rfl (by simp) rfl ?_
        rintro v96 L96 ⟨rfl, rfl⟩
        change At _ _ _ [N36, R] _
        refine op_pickT (nxlf rfl) rfl rfl rfl ?_
        refine op_assign (nxlf rfl) rfl rfl ?_
        refine At.opsNil ?_
        refine At.norm (hk_15 ?_)
        refine At.ret (?_)
        refine At.sub (L' := [R]) (.cons _ (.cons_cons _ (.slnil))) ?_
        refine At.ret1 (L1 := []) rfl (.tmp rfl .nil) (.refl _) (.refl _) ?_
        exact ⟨rfl, rfl⟩
      · exfalso; omega
set_option maxRecDepth 100000 in
set_option maxHeartbeats 4000000 in
theorem ForkNames_low {N : Heaplet} (hN : TabH N) (hU : TabU N) {s : List UInt8} (hs : s.length < 35184372088832) {f : Int} (hf : f < 0) (tu : UInt32) : Fn Tryd.prog 7 #[str s, .int .i64 f, .int .u32 (tu.toNat : Int)] [] [N] (fun v L => v = .bool true ∧ L = []) := by
  obtain ⟨r, hr⟩ := Nth.exists lowNames (s.map lowB)
  have hne : (decide (0 ≤ r) != decide (0 ≤ r)) = false := bne_self_eq_false _
  obtain ⟨nm, hnm⟩ : ∃ nm, ([] : List UInt8) = nm := ⟨_, rfl⟩
  have hnl : nm.length ≤ 35184372088 := by rw [← hnm]; exact Nat.zero_le _
  have hr2 : Nth lowNames (nm.map lowB) (-1) := by rw [← hnm]; exact nth_none
  have h85 : (decide (0 ≤ (-1 : Int)) == false) = true := rfl
  refine Fn.enter (vs := [str s, .int .i64 f, .int .u32 (tu.toNat : Int)]) Tryd.func7 rfl rfl rfl ?_
  intro E R hR
  have hT := hN.le (hR N (by simp))
  have hU := hU.le (hR N (by simp))
  change At _ _ E [R] _
  refine At.seq fun K1 hk_1 => ?_
  refine At.region ?_
  refine op_assign (nxlf rfl) rfl rfl ?_
  refine At.opsNil ?_
  refine At.norm (hk_1 ?_)
  refine At.seq fun K2 hk_2 => ?_
  refine At.region ?_
  refine op_move (nxlf rfl) rfl rfl ?_
  refine op_callA (nxla rfl) (.cons rfl .nil) (FNamed_f hT hU hs hr) Tryd.func22 rfl rfl (by simp) rfl ?_
  rintro v18 L18 ⟨rfl, rfl⟩
  change At _ _ _ [R] _
  refine op_move (nxlf rfl) rfl rfl ?_
  refine op_extract (nxlf rfl) rfl rfl rfl ?_
  refine op_extract (nxlf rfl) rfl rfl rfl ?_
  refine op_assign (nxlf rfl) rfl rfl ?_
  refine op_assign (nxlf rfl) rfl rfl ?_
  refine At.opsNil ?_
  refine At.norm (hk_2 ?_)
  refine At.seq fun K3 hk_3 => ?_
  refine At.region ?_
  refine op_move (nxlf rfl) rfl rfl ?_
  refine op_callA (nxla rfl) (.cons rfl .nil) (rNamed_f hs hr) Tryd.func23 rfl rfl (by simp) rfl ?_
  rintro v23 L23 ⟨rfl, rfl⟩
  change At _ _ _ [R] _
  refine op_move (nxlf rfl) rfl rfl ?_
  refine op_extract (nxlf rfl) rfl rfl rfl ?_
  refine op_extract (nxlf rfl) rfl rfl rfl ?_
  refine op_assign (nxlf rfl) rfl rfl ?_
  refine op_assign (nxlf rfl) rfl rfl ?_
  refine At.opsNil ?_
  refine At.norm (hk_3 ?_)
  refine At.seq fun K4 hk_4 => ?_
  refine At.seq fun K5 hk_5 => ?_
  refine At.region ?_
  refine op_move (nxlf rfl) rfl rfl ?_
  refine op_move (nxlf rfl) rfl rfl ?_
  refine op_neq (nxlf rfl) rfl rfl rfl ?_
  refine op_move (nxlf rfl) rfl rfl ?_
  refine At.partP (d := 29) rfl (fun g29 => ?_) (fun g29 => ?_)
  · exact absurd rfl g29
  · refine op_move (nxgf rfl rfl rfl rfl) rfl rfl ?_
    refine op_move (nxgf rfl rfl rfl rfl) rfl rfl ?_
    refine op_neB (nxgf rfl rfl rfl rfl) Tryd.underlying4 rfl rfl rfl ?_
    rw [hne]
    refine op_pickF (nxlf rfl) rfl rfl rfl ?_
    refine At.opsNil ?_
    refine At.norm (hk_5 ?_)
    refine At.condF rfl ?_
    refine At.skip ?_
    refine At.norm (hk_4 ?_)
    refine At.seq fun K6 hk_6 => ?_
    refine At.region ?_
    refine op_move (nxlf rfl) rfl rfl ?_
    refine op_callA (nxla rfl) (.cons rfl .nil) (FName_no f (.inl hf)) Tryd.func10 rfl rfl (by simp) rfl ?_
    rintro v35 L35 ⟨rfl, rfl⟩
    change At _ _ _ [R] _
    rw [hnm]
    refine op_strB (nxla rfl) Tryd.underlying9 Tryd.underlying57 Tryd.underlying5 rfl (by omega) rfl (fun N36 b36 p36 m36 => ?_)
    have s36 := m36.rsl
    refine op_assign (nxlf rfl) rfl rfl ?_
    refine At.opsNil ?_
    refine At.norm (hk_6 ?_)
    refine At.seq fun K7 hk_7 => ?_
    refine At.seq fun K8 hk_8 => ?_
    refine At.region ?_
    refine op_assign (nxlf rfl) rfl rfl ?_
    refine At.opsNil ?_
    refine At.norm (hk_8 ?_)
    refine At.block ?_
    refine At.loop (fun fr_ hp_ ms_ => ∃ (k : Nat) (q : List UInt8) (N36 : Heaplet), fr_ = [(1, .int .i64 f), (2, .int .u32 (tu.toNat : Int)), (11, .slice (some ⟨b36, 0, none⟩) nm.length p36), (12, .int .i64 (k : Int))] ∧ hp_ = [N36, R] ∧ nm.length - k = ms_ ∧ (k ≤ nm.length) ∧ (q.length = nm.length) ∧ (q.map lowB = nm.map lowB) ∧ (RowM N36 5 b36 nm.length p36 (u8s q))) ?_ (.refl _) ⟨0, nm, N36, rfl, rfl, rfl, by omega, rfl, rfl, m36⟩ ?_
    · exact .cons (by first | exact lkI rfl (by omega) | rfl) (.cons (by first | exact lkI rfl (by omega) | rfl) (.cons (by first | exact lkI rfl (by omega) | rfl) (.cons (by first | exact lkI rfl (by omega) | rfl) .nil)))
    rintro _ _ _ ⟨k, q, N36, rfl, rfl, rfl, hk, hql, hq, m36⟩
    have s36 := m36.rsl
    have c36 := s36.cap63
    refine At.seq fun K9 hk_9 => ?_
    refine At.seq fun K10 hk_10 => ?_
    refine At.region ?_
    refine op_move (nxlf rfl) rfl rfl ?_
    refine op_move (nxlf rfl) rfl rfl ?_
    refine op_lenS (nxlf rfl) se57 rfl rfl ?_
    refine op_lss (nxlf rfl) rfl rfl rfl ?_
    refine At.opsNil ?_
    refine At.norm (hk_10 ?_)
    refine At.condP rfl (fun c40 => ?_) (fun c40 => ?_)
    · refine At.skip ?_
      refine At.norm (hk_9 ?_)
      refine At.seq fun K11 hk_11 => ?_
      refine At.block ?_
      refine At.seq fun K12 hk_12 => ?_
      refine At.region ?_
      refine op_move (nxlf rfl) rfl rfl ?_
      refine op_move (nxlf rfl) rfl rfl ?_
      refine op_rem (nxlf rfl) rfl rfl (by omega) (by omega) rfl ?_
      refine op_shrU32 (nxlf rfl) rfl rfl (show _ = (((k % 32 : Nat)) : Int) from by omega) rfl ?_
      refine op_andU32 (b := 1) (nxlf rfl) rfl rfl rfl ?_
      refine op_eql (nxlf rfl) rfl rfl rfl ?_
      refine op_move (nxlf rfl) rfl rfl ?_
      refine At.partP (d := 49) rfl (fun g49 => ?_) (fun g49 => ?_)
      · refine op_move (nxgf rfl rfl rfl rfl) rfl rfl ?_
        refine op_move (nxgf rfl rfl rfl rfl) rfl rfl ?_
        refine op_idx1 (nxgf rfl rfl rfl rfl) se57 rfl rfl s36 (show _ = (((k : Nat)) : Int) from by omega) (by omega) rfl ?_
        refine op_loadE (nxgf rfl rfl rfl rfl) sc5 rfl s36 (by first | exact get8 (by omega) | exact get64 (by omega) | exact get32 (by omega)) (by first | exact mem0 | exact mem1 | exact mem2 | exact mem3 | exact mem4 | exact mem5 | exact mem6 | exact mem7 | exact mem8 | exact mem9) rfl ?_
        refine op_geq (nxgf rfl rfl rfl rfl) rfl rfl rfl ?_
        refine op_pickT (nxlf rfl) rfl rfl rfl ?_
        refine op_move (nxlf rfl) rfl rfl ?_
        refine At.partP (d := 56) rfl (fun g56 => ?_) (fun g56 => ?_)
        · refine op_move (nxgf rfl rfl rfl rfl) rfl rfl ?_
          refine op_move (nxgf rfl rfl rfl rfl) rfl rfl ?_
          refine op_idx1 (nxgf rfl rfl rfl rfl) se57 rfl rfl s36 (show _ = (((k : Nat)) : Int) from by omega) (by omega) rfl ?_
          refine op_loadE (nxgf rfl rfl rfl rfl) sc5 rfl s36 (by first | exact get8 (by omega) | exact get64 (by omega) | exact get32 (by omega)) (by first | exact mem0 | exact mem1 | exact mem2 | exact mem3 | exact mem4 | exact mem5 | exact mem6 | exact mem7 | exact mem8 | exact mem9) rfl ?_
          refine op_leq (nxgf rfl rfl rfl rfl) rfl rfl rfl ?_
          refine op_pickT (nxlf rfl) rfl rfl rfl ?_
          refine At.opsNil ?_
          refine At.norm (hk_12 ?_)
          refine At.condP rfl (fun c62 => ?_) (fun c62 => ?_)
          · refine At.region ?_
            refine op_move (nxlf rfl) rfl rfl ?_
            refine op_move (nxlf rfl) rfl rfl ?_
            refine op_move (nxlf rfl) rfl rfl ?_
            refine op_move (nxlf rfl) rfl rfl ?_
            refine op_idx1 (nxlf rfl) se57 rfl rfl s36 (show _ = (((k : Nat)) : Int) from by omega) (by omega) rfl ?_
            refine op_loadE (nxlf rfl) sc5 rfl s36 (by first | exact get8 (by omega) | exact get64 (by omega) | exact get32 (by omega)) (by first | exact mem0 | exact mem1 | exact mem2 | exact mem3 | exact mem4 | exact mem5 | exact mem6 | exact mem7 | exact mem8 | exact mem9) rfl ?_
            refine op_subW (nxlf rfl) rfl rfl rfl ?_
            refine op_idx1 (nxlf rfl) se57 rfl rfl s36 (show _ = (((k : Nat)) : Int) from by omega) (by omega) rfl ?_
            refine op_storeM (nxl rfl) sz5 rfl rfl rfl rfl m36 (by rw [length_u8s]; omega) sel0 (fun N36 m36 => ?_)
            simp only [setL] at m36
            rw [sub32w, set_u8s] at m36
            have s36 := m36.rsl
            refine At.opsNil ?_
            refine At.inNorm ?_
            refine At.norm (hk_11 ?_)
            refine At.region ?_
            refine op_move (nxlf rfl) rfl rfl ?_
            refine op_addI (nxlf rfl) rfl rfl (by omega) (by omega) rfl ?_
            refine op_assign (nxlf rfl) rfl rfl ?_
            refine At.opsNil ?_
            refine At.norm ?_
            refine At.back ?_ (.refl _) ⟨k + 1, q.set k (q.getD k 0 - 32), N36, rfl, rfl, rfl, by omega, by rw [List.length_set]; exact hql, (low_up (by omega) g56 c62).trans hq, m36⟩ ?_
            · exact .cons (by first | exact lkI rfl (by omega) | rfl) (.cons (by first | exact lkI rfl (by omega) | rfl) (.cons (by first | exact lkI rfl (by omega) | rfl) (.cons (by first | exact lkI rfl (by omega) | rfl) .nil)))
            · omega
          · refine At.skip ?_
            refine At.inNorm ?_
            refine At.norm (hk_11 ?_)
            refine At.region ?_
            refine op_move (nxlf rfl) rfl rfl ?_
            refine op_addI (nxlf rfl) rfl rfl (by omega) (by omega) rfl ?_
            refine op_assign (nxlf rfl) rfl rfl ?_
            refine At.opsNil ?_
            refine At.norm ?_
            refine At.back ?_ (.refl _) ⟨k + 1, q, N36, rfl, rfl, rfl, by omega, hql, hq, m36⟩ ?_
            · exact .cons (by first | exact lkI rfl (by omega) | rfl) (.cons (by first | exact lkI rfl (by omega) | rfl) (.cons (by first | exact lkI rfl (by omega) | rfl) (.cons (by first | exact lkI rfl (by omega) | rfl) .nil)))
            · omega
        · refine op_skip rfl rfl rfl rfl rfl rfl rfl ?_
          refine op_skip rfl rfl rfl rfl rfl rfl rfl ?_
          refine op_skip rfl rfl rfl rfl rfl rfl rfl ?_
          refine op_skip rfl rfl rfl rfl rfl rfl rfl ?_
          refine op_skip rfl rfl rfl rfl rfl rfl rfl ?_
          refine op_pickF (nxlf rfl) rfl rfl rfl ?_
          refine At.opsNil ?_
          refine At.norm (hk_12 ?_)
          refine At.condF rfl ?_
          refine At.skip ?_
          refine At.inNorm ?_
          refine At.norm (hk_11 ?_)
          refine At.region ?_
          refine op_move (nxlf rfl) rfl rfl ?_
          refine op_addI (nxlf rfl) rfl rfl (by omega) (by omega) rfl ?_
          refine op_assign (nxlf rfl) rfl rfl ?_
          refine At.opsNil ?_
          refine At.norm ?_
          refine At.back ?_ (.refl _) ⟨k + 1, q, N36, rfl, rfl, rfl, by omega, hql, hq, m36⟩ ?_
          · exact .cons (by first | exact lkI rfl (by omega) | rfl) (.cons (by first | exact lkI rfl (by omega) | rfl) (.cons (by first | exact lkI rfl (by omega) | rfl) (.cons (by first | exact lkI rfl (by omega) | rfl) .nil)))
          · omega
      · refine op_skip rfl rfl rfl rfl rfl rfl rfl ?_
        refine op_skip rfl rfl rfl rfl rfl rfl rfl ?_
        refine op_skip rfl rfl rfl rfl rfl rfl rfl ?_
        refine op_skip rfl rfl rfl rfl rfl rfl rfl ?_
        refine op_skip rfl rfl rfl rfl rfl rfl rfl ?_
        refine op_pickF (nxlf rfl) rfl rfl rfl ?_
        refine op_move (nxlf rfl) rfl rfl ?_
        refine op_skip rfl rfl rfl rfl rfl rfl rfl ?_
        refine op_skip rfl rfl rfl rfl rfl rfl rfl ?_
        refine op_skip rfl rfl rfl rfl rfl rfl rfl ?_
        refine op_skip rfl rfl rfl rfl rfl rfl rfl ?_
        refine op_skip rfl rfl rfl rfl rfl rfl rfl ?_
        refine op_pickF (nxlf rfl) rfl rfl rfl ?_
        refine At.opsNil ?_
        refine At.norm (hk_12 ?_)
        refine At.condF rfl ?_
        refine At.skip ?_
        refine At.inNorm ?_
        refine At.norm (hk_11 ?_)
        refine At.region ?_
        refine op_move (nxlf rfl) rfl rfl ?_
        refine op_addI (nxlf rfl) rfl rfl (by omega) (by omega) rfl ?_
        refine op_assign (nxlf rfl) rfl rfl ?_
        refine At.opsNil ?_
        refine At.norm ?_
        refine At.back ?_ (.refl _) ⟨k + 1, q, N36, rfl, rfl, rfl, by omega, hql, hq, m36⟩ ?_
        · exact .cons (by first | exact lkI rfl (by omega) | rfl) (.cons (by first | exact lkI rfl (by omega) | rfl) (.cons (by first | exact lkI rfl (by omega) | rfl) (.cons (by first | exact lkI rfl (by omega) | rfl) .nil)))
        · omega
    · refine At.exit (At.thenExit (At.thenExit (At.inHit ?_)))
      refine At.norm (hk_7 ?_)
      refine At.seq fun K13 hk_13 => ?_
      refine At.region ?_
      refine op_move (nxlf rfl) rfl rfl ?_
      refine op_str (nxlf rfl) Tryd.underlying57 Tryd.underlying5 Tryd.underlying9 rfl (by assumption) (by first | exact mem0 | exact mem1 | exact mem2 | exact mem3 | exact mem4 | exact mem5 | exact mem6 | exact mem7 | exact mem8 | exact mem9) rfl ?_
      refine op_callA (nxla rfl) (.cons rfl .nil) (FNamed_f (s := q) hT hU (by omega) (hq.symm ▸ hr2)) Tryd.func22 rfl rfl (by simp) rfl ?_
      rintro v74 L74 ⟨rfl, rfl⟩
      change At _ _ _ [N36, R] _
      refine op_move (nxlf rfl) rfl rfl ?_
      refine op_extract (nxlf rfl) rfl rfl rfl ?_
      refine op_extract (nxlf rfl) rfl rfl rfl ?_
      refine op_assign (nxlf rfl) rfl rfl ?_
      refine op_assign (nxlf rfl) rfl rfl ?_
      refine At.opsNil ?_
      refine At.norm (hk_13 ?_)
      refine At.seq fun K14 hk_14 => ?_
      refine At.region ?_
      refine op_move (nxlf rfl) rfl rfl ?_
      refine op_geq (nxlf rfl) rfl rfl rfl ?_
      refine op_move (nxlf rfl) rfl rfl ?_
      refine At.partP (d := 79) rfl (fun g79 => ?_) (fun g79 => ?_)
      · exfalso; omega
      · refine op_skip rfl rfl rfl rfl rfl rfl rfl ?_
        refine op_skip rfl rfl rfl rfl rfl rfl rfl ?_
        refine op_pickF (nxlf rfl) rfl rfl rfl ?_
        refine op_assign (nxlf rfl) rfl rfl ?_
        refine At.opsNil ?_
        refine At.norm (hk_14 ?_)
        refine At.seq fun K15 hk_15 => ?_
        refine At.region ?_
        refine op_move (nxlf rfl) rfl rfl ?_
        refine op_move (nxlf rfl) rfl rfl ?_
        refine op_eqB (nxlf rfl) Tryd.underlying4 rfl rfl rfl ?_
        rw [h85]
        refine op_move (nxlf rfl) rfl rfl ?_
        refine op_move (nxgf rfl rfl rfl rfl) rfl rfl ?_
        refine op_not (nxgf rfl rfl rfl rfl) rfl rfl ?_
        refine op_move (nxgf rfl rfl rfl rfl) rfl rfl ?_
        refine op_skip rfl rfl rfl rfl rfl rfl rfl ?_
        refine op_skip rfl rfl rfl rfl rfl rfl rfl ?_
        refine op_skip rfl rfl rfl rfl rfl rfl rfl ?_
        refine op_pickT (nxgf rfl rfl rfl rfl) rfl rfl rfl ?_
        refine op_pickT (nxlf rfl) rfl rfl rfl ?_
        refine op_move (nxlf rfl) rfl rfl ?_
        refine op_callA (nxga rfl rfl rfl rfl) .nil (Fwakes_f hT) Tryd.func12 rfl rfl (by simp) rfl ?_
        rintro v96 L96 ⟨rfl, rfl⟩
        change At _ _ _ [N36, R] _
        refine op_pickT (nxlf rfl) rfl rfl rfl ?_
        refine op_assign (nxlf rfl) rfl rfl ?_
        refine At.opsNil ?_
        refine At.norm (hk_15 ?_)
        refine At.ret (?_)
        refine At.sub (L' := [R]) (.cons _ (.cons_cons _ (.slnil))) ?_
        refine At.ret1 (L1 := []) rfl (.tmp rfl .nil) (.refl _) (.refl _) ?_
        exact ⟨rfl, rfl⟩
set_option maxRecDepth 100000 in
set_option maxHeartbeats 4000000 in
theorem ForkNames_high {N : Heaplet} (hN : TabH N) (hU : TabU N) {s : List UInt8} (hs : s.length < 35184372088832) {f : Int} (hf : 15 < f) (tu : UInt32) : Fn Tryd.prog 7 #[str s, .int .i64 f, .int .u32 (tu.toNat : Int)] [] [N] (fun v L => v = .bool true ∧ L = []) := by
  obtain ⟨r, hr⟩ := Nth.exists lowNames (s.map lowB)
  have hne : (decide (0 ≤ r) != decide (0 ≤ r)) = false := bne_self_eq_false _
  obtain ⟨nm, hnm⟩ : ∃ nm, ([] : List UInt8) = nm := ⟨_, rfl⟩
  have hnl : nm.length ≤ 35184372088 := by rw [← hnm]; exact Nat.zero_le _
  have hr2 : Nth lowNames (nm.map lowB) (-1) := by rw [← hnm]; exact nth_none
  have h81 : decide (f ≤ 15) = false := decide_eq_false (by omega)
  have h85 : (decide (0 ≤ (-1 : Int)) == false) = true := rfl
  refine Fn.enter (vs := [str s, .int .i64 f, .int .u32 (tu.toNat : Int)]) Tryd.func7 rfl rfl rfl ?_
  intro E R hR
  have hT := hN.le (hR N (by simp))
  have hU := hU.le (hR N (by simp))
  change At _ _ E [R] _
  refine At.seq fun K1 hk_1 => ?_
  refine At.region ?_
  refine op_assign (nxlf rfl) rfl rfl ?_
  refine At.opsNil ?_
  refine At.norm (hk_1 ?_)
  refine At.seq fun K2 hk_2 => ?_
  refine At.region ?_
  refine op_move (nxlf rfl) rfl rfl ?_
  refine op_callA (nxla rfl) (.cons rfl .nil) (FNamed_f hT hU hs hr) Tryd.func22 rfl rfl (by simp) rfl ?_
  rintro v18 L18 ⟨rfl, rfl⟩
  change At _ _ _ [R] _
  refine op_move (nxlf rfl) rfl rfl ?_
  refine op_extract (nxlf rfl) rfl rfl rfl ?_
  refine op_extract (nxlf rfl) rfl rfl rfl ?_
  refine op_assign (nxlf rfl) rfl rfl ?_
  refine op_assign (nxlf rfl) rfl rfl ?_
  refine At.opsNil ?_
  refine At.norm (hk_2 ?_)
  refine At.seq fun K3 hk_3 => ?_
  refine At.region ?_
  refine op_move (nxlf rfl) rfl rfl ?_
  refine op_callA (nxla rfl) (.cons rfl .nil) (rNamed_f hs hr) Tryd.func23 rfl rfl (by simp) rfl ?_
  rintro v23 L23 ⟨rfl, rfl⟩
  change At _ _ _ [R] _
  refine op_move (nxlf rfl) rfl rfl ?_
  refine op_extract (nxlf rfl) rfl rfl rfl ?_
  refine op_extract (nxlf rfl) rfl rfl rfl ?_
  refine op_assign (nxlf rfl) rfl rfl ?_
  refine op_assign (nxlf rfl) rfl rfl ?_
  refine At.opsNil ?_
  refine At.norm (hk_3 ?_)
  refine At.seq fun K4 hk_4 => ?_
  refine At.seq fun K5 hk_5 => ?_
  refine At.region ?_
  refine op_move (nxlf rfl) rfl rfl ?_
  refine op_move (nxlf rfl) rfl rfl ?_
  refine op_neq (nxlf rfl) rfl rfl rfl ?_
  refine op_move (nxlf rfl) rfl rfl ?_
  refine At.partP (d := 29) rfl (fun g29 => ?_) (fun g29 => ?_)
  · exact absurd rfl g29
  · refine op_move (nxgf rfl rfl rfl rfl) rfl rfl ?_
    refine op_move (nxgf rfl rfl rfl rfl) rfl rfl ?_
    refine op_neB (nxgf rfl rfl rfl rfl) Tryd.underlying4 rfl rfl rfl ?_
    rw [hne]
    refine op_pickF (nxlf rfl) rfl rfl rfl ?_
    refine At.opsNil ?_
    refine At.norm (hk_5 ?_)
    refine At.condF rfl ?_
    refine At.skip ?_
    refine At.norm (hk_4 ?_)
    refine At.seq fun K6 hk_6 => ?_
    refine At.region ?_
    refine op_move (nxlf rfl) rfl rfl ?_
    refine op_callA (nxla rfl) (.cons rfl .nil) (FName_no f (.inr hf)) Tryd.func10 rfl rfl (by simp) rfl ?_
    rintro v35 L35 ⟨rfl, rfl⟩
    change At _ _ _ [R] _
    rw [hnm]
    refine op_strB (nxla rfl) Tryd.underlying9 Tryd.underlying57 Tryd.underlying5 rfl (by omega) rfl (fun N36 b36 p36 m36 => ?_)
    have s36 := m36.rsl
    refine op_assign (nxlf rfl) rfl rfl ?_
    refine At.opsNil ?_
    refine At.norm (hk_6 ?_)
    refine At.seq fun K7 hk_7 => ?_
    refine At.seq fun K8 hk_8 => ?_
    refine At.region ?_
    refine op_assign (nxlf rfl) rfl rfl ?_
    refine At.opsNil ?_
    refine At.norm (hk_8 ?_)
    refine At.block ?_
    refine At.loop (fun fr_ hp_ ms_ => ∃ (k : Nat) (q : List UInt8) (N36 : Heaplet), fr_ = [(1, .int .i64 f), (2, .int .u32 (tu.toNat : Int)), (11, .slice (some ⟨b36, 0, none⟩) nm.length p36), (12, .int .i64 (k : Int))] ∧ hp_ = [N36, R] ∧ nm.length - k = ms_ ∧ (k ≤ nm.length) ∧ (q.length = nm.length) ∧ (q.map lowB = nm.map lowB) ∧ (RowM N36 5 b36 nm.length p36 (u8s q))) ?_ (.refl _) ⟨0, nm, N36, rfl, rfl, rfl, by omega, rfl, rfl, m36⟩ ?_
    · exact .cons (by first | exact lkI rfl (by omega) | rfl) (.cons (by first | exact lkI rfl (by omega) | rfl) (.cons (by first | exact lkI rfl (by omega) | rfl) (.cons (by first | exact lkI rfl (by omega) | rfl) .nil)))
    rintro _ _ _ ⟨k, q, N36, rfl, rfl, rfl, hk, hql, hq, m36⟩
    have s36 := m36.rsl
    have c36 := s36.cap63
    refine At.seq fun K9 hk_9 => ?_
    refine At.seq fun K10 hk_10 => ?_
    refine At.region ?_
    refine op_move (nxlf rfl) rfl rfl ?_
    refine op_move (nxlf rfl) rfl rfl ?_
    refine op_lenS (nxlf rfl) se57 rfl rfl ?_
    refine op_lss (nxlf rfl) rfl rfl rfl ?_
    refine At.opsNil ?_
    refine At.norm (hk_10 ?_)
    refine At.condP rfl (fun c40 => ?_) (fun c40 => ?_)
    · refine At.skip ?_
      refine At.norm (hk_9 ?_)
      refine At.seq fun K11 hk_11 => ?_
      refine At.block ?_
      refine At.seq fun K12 hk_12 => ?_
      refine At.region ?_
      refine op_move (nxlf rfl) rfl rfl ?_
      refine op_move (nxlf rfl) rfl rfl ?_
      refine op_rem (nxlf rfl) rfl rfl (by omega) (by omega) rfl ?_
      refine op_shrU32 (nxlf rfl) rfl rfl (show _ = (((k % 32 : Nat)) : Int) from by omega) rfl ?_
      refine op_andU32 (b := 1) (nxlf rfl) rfl rfl rfl ?_
      refine op_eql (nxlf rfl) rfl rfl rfl ?_
      refine op_move (nxlf rfl) rfl rfl ?_
      refine At.partP (d := 49) rfl (fun g49 => ?_) (fun g49 => ?_)
      · refine op_move (nxgf rfl rfl rfl rfl) rfl rfl ?_
        refine op_move (nxgf rfl rfl rfl rfl) rfl rfl ?_
        refine op_idx1 (nxgf rfl rfl rfl rfl) se57 rfl rfl s36 (show _ = (((k : Nat)) : Int) from by omega) (by omega) rfl ?_
        refine op_loadE (nxgf rfl rfl rfl rfl) sc5 rfl s36 (by first | exact get8 (by omega) | exact get64 (by omega) | exact get32 (by omega)) (by first | exact mem0 | exact mem1 | exact mem2 | exact mem3 | exact mem4 | exact mem5 | exact mem6 | exact mem7 | exact mem8 | exact mem9) rfl ?_
        refine op_geq (nxgf rfl rfl rfl rfl) rfl rfl rfl ?_
        refine op_pickT (nxlf rfl) rfl rfl rfl ?_
        refine op_move (nxlf rfl) rfl rfl ?_
        refine At.partP (d := 56) rfl (fun g56 => ?_) (fun g56 => ?_)
        · refine op_move (nxgf rfl rfl rfl rfl) rfl rfl ?_
          refine op_move (nxgf rfl rfl rfl rfl) rfl rfl ?_
          refine op_idx1 (nxgf rfl rfl rfl rfl) se57 rfl rfl s36 (show _ = (((k : Nat)) : Int) from by omega) (by omega) rfl ?_
          refine op_loadE (nxgf rfl rfl rfl rfl) sc5 rfl s36 (by first | exact get8 (by omega) | exact get64 (by omega) | exact get32 (by omega)) (by first | exact mem0 | exact mem1 | exact mem2 | exact mem3 | exact mem4 | exact mem5 | exact mem6 | exact mem7 | exact mem8 | exact mem9) rfl ?_
          refine op_leq (nxgf rfl rfl rfl rfl) rfl rfl rfl ?_
          refine op_pickT (nxlf rfl) rfl rfl rfl ?_
          refine At.opsNil ?_
          refine At.norm (hk_12 ?_)
          refine At.condP rfl (fun c62 => ?_) (fun c62 => ?_)
          · refine At.region ?_
            refine op_move (nxlf rfl) rfl rfl ?_
            refine op_move (nxlf rfl) rfl rfl ?_
            refine op_move (nxlf rfl) rfl rfl ?_
            refine op_move (nxlf rfl) rfl rfl ?_
            refine op_idx1 (nxlf rfl) se57 rfl rfl s36 (show _ = (((k : Nat)) : Int) from by omega) (by omega) rfl ?_
            refine op_loadE (nxlf rfl) sc5 rfl s36 (by first | exact get8 (by omega) | exact get64 (by omega) | exact get32 (by omega)) (by first | exact mem0 | exact mem1 | exact mem2 | exact mem3 | exact mem4 | exact mem5 | exact mem6 | exact mem7 | exact mem8 | exact mem9) rfl ?_
            refine op_subW (nxlf rfl) rfl rfl rfl ?_
            refine op_idx1 (nxlf rfl) se57 rfl rfl s36 (show _ = (((k : Nat)) : Int) from by omega) (by omega) rfl ?_
            refine op_storeM (nxl rfl) sz5 rfl rfl rfl rfl m36 (by rw [length_u8s]; omega) sel0 (fun N36 m36 => ?_)
            simp only [setL] at m36
            rw [sub32w, set_u8s] at m36
            have s36 := m36.rsl
            refine At.opsNil ?_
            refine At.inNorm ?_
            refine At.norm (hk_11 ?_)
            refine At.region ?_
            refine op_move (nxlf rfl) rfl rfl ?_
            refine op_addI (nxlf rfl) rfl rfl (by omega) (by omega) rfl ?_
            refine op_assign (nxlf rfl) rfl rfl ?_
            refine At.opsNil ?_
            refine At.norm ?_
            refine At.back ?_ (.refl _) ⟨k + 1, q.set k (q.getD k 0 - 32), N36, rfl, rfl, rfl, by omega, by rw [List.length_set]; exact hql, (low_up (by omega) g56 c62).trans hq, m36⟩ ?_
            · exact .cons (by first | exact lkI rfl (by omega) | rfl) (.cons (by first | exact lkI rfl (by omega) | rfl) (.cons (by first | exact lkI rfl (by omega) | rfl) (.cons (by first | exact lkI rfl (by omega) | rfl) .nil)))
            · omega
          · refine At.skip ?_
            refine At.inNorm ?_
            refine At.norm (hk_11 ?_)
            refine At.region ?_
            refine op_move (nxlf rfl) rfl rfl ?_
            refine op_addI (nxlf rfl) rfl rfl (by omega) (by omega) rfl ?_
            refine op_assign (nxlf rfl) rfl rfl ?_
            refine At.opsNil ?_
            refine At.norm ?_
            refine At.back ?_ (.refl _) ⟨k + 1, q, N36, rfl, rfl, rfl, by omega, hql, hq, m36⟩ ?_
            · exact .cons (by first | exact lkI rfl (by omega) | rfl) (.cons (by first | exact lkI rfl (by omega) | rfl) (.cons (by first | exact lkI rfl (by omega) | rfl) (.cons (by first | exact lkI rfl (by omega) | rfl) .nil)))
            · omega
        · refine op_skip rfl rfl rfl rfl rfl rfl rfl ?_
          refine op_skip rfl rfl rfl rfl rfl rfl rfl ?_
          refine op_skip rfl rfl rfl rfl rfl rfl rfl ?_
          refine op_skip rfl rfl rfl rfl rfl rfl rfl ?_
          refine op_skip rfl rfl rfl rfl rfl rfl rfl ?_
          refine op_pickF (nxlf rfl) rfl rfl rfl ?_
          refine At.opsNil ?_
          refine At.norm (hk_12 ?_)
          refine At.condF rfl ?_
          refine At.skip ?_
          refine At.inNorm ?_
          refine At.norm (hk_11 ?_)
          refine At.region ?_
          refine op_move (nxlf rfl) rfl rfl ?_
          refine op_addI (nxlf rfl) rfl rfl (by omega) (by omega) rfl ?_
          refine op_assign (nxlf rfl) rfl rfl ?_
          refine At.opsNil ?_
          refine At.norm ?_
          refine At.back ?_ (.refl _) ⟨k + 1, q, N36, rfl, rfl, rfl, by omega, hql, hq, m36⟩ ?_
          · exact .cons (by first | exact lkI rfl (by omega) | rfl) (.cons (by first | exact lkI rfl (by omega) | rfl) (.cons (by first | exact lkI rfl (by omega) | rfl) (.cons (by first | exact lkI rfl (by omega) | rfl) .nil)))
          · omega
      · refine op_skip rfl rfl rfl rfl rfl rfl rfl ?_
        refine op_skip rfl rfl rfl rfl rfl rfl rfl ?_
        refine op_skip rfl rfl rfl rfl rfl rfl rfl ?_
        refine op_skip rfl rfl rfl rfl rfl rfl rfl ?_
        refine op_skip rfl rfl rfl rfl rfl rfl rfl ?_
        refine op_pickF (nxlf rfl) rfl rfl rfl ?_
        refine op_move (nxlf rfl) rfl rfl ?_
        refine op_skip rfl rfl rfl rfl rfl rfl rfl ?_
        refine op_skip rfl rfl rfl rfl rfl rfl rfl ?_
        refine op_skip rfl rfl rfl rfl rfl rfl rfl ?_
        refine op_skip rfl rfl rfl rfl rfl rfl rfl ?_
        refine op_skip rfl rfl rfl rfl rfl rfl rfl ?_
        refine op_pickF (nxlf rfl) rfl rfl rfl ?_
        refine At.opsNil ?_
        refine At.norm (hk_12 ?_)
        refine At.condF rfl ?_
        refine At.skip ?_
        refine At.inNorm ?_
        refine At.norm (hk_11 ?_)
        refine At.region ?_
        refine op_move (nxlf rfl) rfl rfl ?_
        refine op_addI (nxlf rfl) rfl rfl (by omega) (by omega) rfl ?_
        refine op_assign (nxlf rfl) rfl rfl ?_
        refine At.opsNil ?_
        refine At.norm ?_
        refine At.back ?_ (.refl _) ⟨k + 1, q, N36, rfl, rfl, rfl, by omega, hql, hq, m36⟩ ?_
        · exact .cons (by first | exact lkI rfl (by omega) | rfl) (.cons (by first | exact lkI rfl (by omega) | rfl) (.cons (by first | exact lkI rfl (by omega) | rfl) (.cons (by first | exact lkI rfl (by omega) | rfl) .nil)))
        · omega
    · refine At.exit (At.thenExit (At.thenExit (At.inHit ?_)))
      refine At.norm (hk_7 ?_)
      refine At.seq fun K13 hk_13 => ?_
      refine At.region ?_
      refine op_move (nxlf rfl) rfl rfl ?_
      refine op_str (nxlf rfl) Tryd.underlying57 Tryd.underlying5 Tryd.underlying9 rfl (by assumption) (by first | exact mem0 | exact mem1 | exact mem2 | exact mem3 | exact mem4 | exact mem5 | exact mem6 | exact mem7 | exact mem8 | exact mem9) rfl ?_
      refine op_callA (nxla rfl) (.cons rfl .nil) (FNamed_f (s := q) hT hU (by omega) (hq.symm ▸ hr2)) Tryd.func22 rfl rfl (by simp) rfl ?_
      rintro v74 L74 ⟨rfl, rfl⟩
      change At _ _ _ [N36, R] _
      refine op_move (nxlf rfl) rfl rfl ?_
      refine op_extract (nxlf rfl) rfl rfl rfl ?_
      refine op_extract (nxlf rfl) rfl rfl rfl ?_
      refine op_assign (nxlf rfl) rfl rfl ?_
      refine op_assign (nxlf rfl) rfl rfl ?_
      refine At.opsNil ?_
      refine At.norm (hk_13 ?_)
      refine At.seq fun K14 hk_14 => ?_
      refine At.region ?_
      refine op_move (nxlf rfl) rfl rfl ?_
      refine op_geq (nxlf rfl) rfl rfl rfl ?_
      refine op_move (nxlf rfl) rfl rfl ?_
      refine At.partP (d := 79) rfl (fun g79 => ?_) (fun g79 => ?_)
      · refine op_move (nxgf rfl rfl rfl rfl) rfl rfl ?_
        refine op_leq (nxgf rfl rfl rfl rfl) rfl rfl rfl ?_
        rw [h81]
        refine op_pickT (nxlf rfl) rfl rfl rfl ?_
        refine op_assign (nxlf rfl) rfl rfl ?_
        refine At.opsNil ?_
        refine At.norm (hk_14 ?_)
        refine At.seq fun K15 hk_15 => ?_
        refine At.region ?_
        refine op_move (nxlf rfl) rfl rfl ?_
        refine op_move (nxlf rfl) rfl rfl ?_
        refine op_eqB (nxlf rfl) Tryd.underlying4 rfl rfl rfl ?_
        rw [h85]
        refine op_move (nxlf rfl) rfl rfl ?_
        refine op_move (nxgf rfl rfl rfl rfl) rfl rfl ?_
        refine op_not (nxgf rfl rfl rfl rfl) rfl rfl ?_
        refine op_move (nxgf rfl rfl rfl rfl) rfl rfl ?_
        refine op_skip rfl rfl rfl rfl rfl rfl rfl ?_
        refine op_skip rfl rfl rfl rfl rfl rfl rfl ?_
        refine op_skip rfl rfl rfl rfl rfl rfl rfl ?_
        refine op_pickT (nxgf rfl rfl rfl rfl) rfl rfl rfl ?_
        refine op_pickT (nxlf rfl) rfl rfl rfl ?_
        refine op_move (nxlf rfl) rfl rfl ?_
        refine op_callA (nxga rfl rfl rfl rfl) .nil (Fwakes_f hT) Tryd.func12 rfl rfl (by simp) rfl ?_
        rintro v96 L96 ⟨rfl, rfl⟩
        change At _ _ _ [N36, R] _
        refine op_pickT (nxlf rfl) rfl rfl rfl ?_
        refine op_assign (nxlf rfl) rfl rfl ?_
        refine At.opsNil ?_
        refine At.norm (hk_15 ?_)
        refine At.ret (?_)
        refine At.sub (L' := [R]) (.cons _ (.cons_cons _ (.slnil))) ?_
        refine At.ret1 (L1 := []) rfl (.tmp rfl .nil) (.refl _) (.refl _) ?_
        exact ⟨rfl, rfl⟩
      · exfalso; omega
theorem ForkNames_f {N : Heaplet} (hN : TabH N) (hU : TabU N) {s : List UInt8} (hs : s.length < 35184372088832) (f : Int) (tu : UInt32) : Fn Tryd.prog 7 #[str s, .int .i64 f, .int .u32 (tu.toNat : Int)] [] [N] (fun v L => v = .bool true ∧ L = []) := by
  by_cases h1 : f < 0
  · exact ForkNames_low hN hU hs h1 tu
  by_cases h2 : 15 < f
  · exact ForkNames_high hN hU hs h2 tu
  obtain ⟨k, rfl⟩ : ∃ k : Nat, f = (k : Int) := ⟨f.toNat, by omega⟩
  exact ForkNames_in hN hU hs (by omega) tu
end Go.Proofs.YtoabimaidpbkiaaDoor
