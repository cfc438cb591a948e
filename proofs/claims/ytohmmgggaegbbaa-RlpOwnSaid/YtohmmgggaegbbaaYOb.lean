/- quarrykeep.Loan: what was handed in is as it was. No condition. -/
import Derived.Test.YtohmmgggaegbbaaYOa
namespace Go.Proofs.Ytohmmgggaegbbaa
set_option linter.unusedVariables false
set_option linter.unusedSimpArgs false
open Go Go.RowKit
theorem set_get {α : Type} {xs : List α} {i : Nat} {x y : α} (h : xs[i]? = some x) : (xs.set i y)[i]? = some y := by
  rw [List.getElem?_set_self (List.getElem?_eq_some_iff.1 h).1]
theorem get_set_ne {α : Type} {xs : List α} {i j : Nat} {y : α} (h : i ≠ j) : (xs.set i y)[j]? = xs[j]? := List.getElem?_set_ne h
theorem get_lt {α : Type} {xs : List α} {i : Nat} (h : i < xs.length) : ∃ x, xs[i]? = some x := ⟨_, List.getElem?_eq_getElem h⟩
theorem str_same (x : List UInt8) : decide (x = x) = true := decide_eq_true rfl
theorem set8R (l : List UInt8) (j : Nat) (x : UInt8) : setL (u8s l) j [.int .u8 (x.toNat : Int)] = u8s (l.set j x) := by rw [setL, setL, set_u8s]
set_option maxRecDepth 100000 in
theorem LoanBack_o {b0 : Nat} {N0 NF NW NK NI : Heaplet} {fs : List (List UInt8)} (h : LoanO b0 N0 NF NW NK NI fs) :
    Fn Try.prog 29 #[.pointer (some ⟨b0, 0, none⟩)] [N0, NF, NW, NK, NI] [] (fun v L => v = .bool true ∧ L = []) := by
  obtain ⟨e0, pf, cf, pw, cw, vf, vw, B0, rF, rW, hI, hK⟩ := h
  have hcf := rF.rsl.cap63
  have hcw := rW.rsl.cap63
  have sF := rF.rsl
  have sW := rW.rsl
  refine Fn.enter (vs := [.pointer (some ⟨b0, 0, none⟩)]) Try.func29 rfl rfl rfl ?_
  intro E R hR
  change At _ _ E [N0, NF, NW, NK, NI, R] _
  refine At.seq fun K1 hk_1 => ?_
  refine At.region ?_
  refine op_assign (nxlf rfl) rfl rfl ?_
  refine At.opsNil ?_
  refine At.norm (hk_1 ?_)
  refine At.seq fun K2 hk_2 => ?_
  refine At.region ?_
  refine op_assign (nxlf rfl) rfl rfl ?_
  refine At.opsNil ?_
  refine At.norm (hk_2 ?_)
  refine At.seq fun K3 hk_3 => ?_
  refine At.seq fun K4 hk_4 => ?_
  refine At.region ?_
  refine op_assign (nxlf rfl) rfl rfl ?_
  refine At.opsNil ?_
  refine At.norm (hk_4 ?_)
  refine At.block ?_
  refine At.loop (fun fr_ hp_ ms_ => ∃ (i : Nat) (NI : Heaplet) (gs : List (List UInt8)), fr_ = [(0, .pointer (some ⟨b0, 0, none⟩)), (3, .bool true), (4, .int .i64 (i : Int))] ∧ hp_ = [N0, NF, NW, NK, NI, R] ∧ fs.length - i = ms_ ∧ (i ≤ fs.length) ∧ (Bag 5 NI vf gs) ∧ (gs.length = fs.length) ∧ (∀ j, i ≤ j → gs[j]? = fs[j]?)) ?_ (.refl _) ⟨0, NI, fs, rfl, rfl, rfl, by omega, hI, rfl, fun _ _ => rfl⟩ ?_
  · exact .cons (by first | exact lkI rfl (by omega) | rfl) (.cons (by first | exact lkI rfl (by omega) | rfl) (.cons (by first | exact lkI rfl (by omega) | rfl) .nil))
  rintro _ _ _ ⟨i, NI, gs, rfl, rfl, rfl, hi, hg, hgl, hgf⟩
  refine At.seq fun K5 hk_5 => ?_
  refine At.seq fun K6 hk_6 => ?_
  refine At.region ?_
  refine op_move (nxlf rfl) rfl rfl ?_
  refine op_move (nxlf rfl) rfl rfl ?_
  refine op_nilChk (nxlf rfl) rfl rfl ?_
  refine op_fieldAddr (nxlf rfl) fl57_0 rfl rfl ?_
  refine op_loadB (nxlf rfl) sc55 rfl B0 (by first | rfl) mem0 rfl ?_
  refine op_lenS (nxlf rfl) se55 rfl rfl ?_
  refine op_lss (nxlf rfl) rfl rfl rfl ?_
  refine At.opsNil ?_
  refine At.norm (hk_6 ?_)
  refine At.condP rfl (fun c12 => ?_) (fun c12 => ?_)
  · obtain ⟨x, hx⟩ := get_lt (xs := fs) (i := i) (by omega)
    obtain ⟨p, c, hv, hr⟩ := hg.row i x (by rw [hgf i (Nat.le_refl _), hx])
    obtain ⟨q, d, hv2, hr2⟩ := hK.rsl i x hx
    have hrs := hr.rsl
    refine At.skip ?_
    refine At.norm (hk_5 ?_)
    refine At.seq fun K7 hk_7 => ?_
    refine At.block ?_
    refine At.seq fun K8 hk_8 => ?_
    refine At.drawnS [N0, NF, NW, NK, NI, R] [] [] [0,1,2,3,4,5,6,7,8,9,10,11,12,13,14,15,16,17,18,19,20] (by kernel_rfl) (by kernel_rfl) (.refl _) ?_
    refine op_move (nxsf rfl rfl rfl) rfl rfl ?_
    refine op_move (nxsf rfl rfl rfl) rfl rfl ?_
    refine op_move (nxsgf rfl rfl rfl rfl rfl rfl) rfl rfl ?_
    refine op_nilChk (nxsgf rfl rfl rfl rfl rfl rfl) rfl rfl ?_
    refine op_fieldAddr (nxsgf rfl rfl rfl rfl rfl rfl) fl57_0 rfl rfl ?_
    refine op_loadB (nxsgf rfl rfl rfl rfl rfl rfl) sc55 rfl B0 (by first | rfl) mem0 rfl ?_
    refine op_move (nxsgf rfl rfl rfl rfl rfl rfl) rfl rfl ?_
    refine op_idx1 (nxsgf rfl rfl rfl rfl rfl rfl) se55 rfl rfl sF (show _ = (((i : Nat)) : Int) from by omega) (by omega) rfl ?_
    refine op_loadE (nxsgf rfl rfl rfl rfl rfl rfl) sc22 rfl sF (by first | exact get8 (by omega) | exact get64 (by omega) | exact get32 (by omega) | exact hv) (by first | exact mem0 | exact mem1 | exact mem2 | exact mem3 | exact mem4 | exact mem5 | exact mem6 | exact mem7 | exact mem8 | exact mem9) rfl ?_
    refine op_str (nxsgf rfl rfl rfl rfl rfl rfl) Try.underlying22 Try.underlying5 Try.underlying9 rfl (by assumption) (by first | exact mem0 | exact mem1 | exact mem2 | exact mem3 | exact mem4 | exact mem5 | exact mem6 | exact mem7 | exact mem8 | exact mem9) rfl ?_
    refine op_move (nxsgf rfl rfl rfl rfl rfl rfl) rfl rfl ?_
    refine op_nilChk (nxsgf rfl rfl rfl rfl rfl rfl) rfl rfl ?_
    refine op_fieldAddr (nxsgf rfl rfl rfl rfl rfl rfl) fl57_1 rfl rfl ?_
    refine op_loadB (nxsgf rfl rfl rfl rfl rfl rfl) sc55 rfl B0 (by first | rfl) mem0 rfl ?_
    refine op_move (nxsgf rfl rfl rfl rfl rfl rfl) rfl rfl ?_
    refine op_idx1 (nxsgf rfl rfl rfl rfl rfl rfl) se55 rfl rfl sW (show _ = (((i : Nat)) : Int) from by omega) (by omega) rfl ?_
    refine op_loadE (nxsgf rfl rfl rfl rfl rfl rfl) sc22 rfl sW (by first | exact get8 (by omega) | exact get64 (by omega) | exact get32 (by omega) | exact hv2) (by first | exact mem0 | exact mem1 | exact mem2 | exact mem3 | exact mem4 | exact mem5 | exact mem6 | exact mem7 | exact mem8 | exact mem9) rfl ?_
    refine op_str (nxsgf rfl rfl rfl rfl rfl rfl) Try.underlying22 Try.underlying5 Try.underlying9 rfl (by assumption) (by first | exact mem0 | exact mem1 | exact mem2 | exact mem3 | exact mem4 | exact mem5 | exact mem6 | exact mem7 | exact mem8 | exact mem9) rfl ?_
    refine op_eqS (nxsgf rfl rfl rfl rfl rfl rfl) rfl rfl rfl ?_
    rw [str_same x]
    refine op_pickT (nxsf rfl rfl rfl) rfl rfl rfl ?_
    refine op_assign (nxsf rfl rfl rfl) rfl rfl ?_
    refine At.sNil ?_
    refine At.norm (hk_8 ?_)
    refine At.seq fun K9 hk_9 => ?_
    refine At.region ?_
    refine op_assign (nxlf rfl) rfl rfl ?_
    refine At.opsNil ?_
    refine At.norm (hk_9 ?_)
    refine At.block ?_
    refine At.loop (fun fr_ hp_ ms_ => ∃ (k : Nat) (NI : Heaplet) (hs : List (List UInt8)) (y : List UInt8), fr_ = [(0, .pointer (some ⟨b0, 0, none⟩)), (3, .bool true), (4, .int .i64 (i : Int)), (5, .int .i64 (k : Int))] ∧ hp_ = [N0, NF, NW, NK, NI, R] ∧ x.length - k = ms_ ∧ (k ≤ x.length) ∧ (Bag 5 NI vf hs) ∧ (hs.length = fs.length) ∧ (hs[i]? = some y) ∧ (y.length = x.length) ∧ (∀ j, i + 1 ≤ j → hs[j]? = fs[j]?)) ?_ (.refl _) ⟨0, NI, gs, x, rfl, rfl, rfl, by omega, hg, hgl, by rw [hgf i (Nat.le_refl _), hx], rfl, fun j hj => hgf j (by omega)⟩ ?_
    · exact .cons (by first | exact lkI rfl (by omega) | rfl) (.cons (by first | exact lkI rfl (by omega) | rfl) (.cons (by first | exact lkI rfl (by omega) | rfl) (.cons (by first | exact lkI rfl (by omega) | rfl) .nil)))
    rintro _ _ _ ⟨k, NI, hs, y, rfl, rfl, rfl, hk, hh, hhl, hy, hyl, hhf⟩
    obtain ⟨p', c', hv', hr'⟩ := hh.row i y hy
    have hrs' := hr'.rsl
    have hcp' := hrs'.cap63
    refine At.seq fun K10 hk_10 => ?_
    refine At.seq fun K11 hk_11 => ?_
    refine At.region ?_
    refine op_move (nxlf rfl) rfl rfl ?_
    refine op_move (nxlf rfl) rfl rfl ?_
    refine op_nilChk (nxlf rfl) rfl rfl ?_
    refine op_fieldAddr (nxlf rfl) fl57_0 rfl rfl ?_
    refine op_loadB (nxlf rfl) sc55 rfl B0 (by first | rfl) mem0 rfl ?_
    refine op_move (nxlf rfl) rfl rfl ?_
    refine op_idx1 (nxlf rfl) se55 rfl rfl sF (show _ = (((i : Nat)) : Int) from by omega) (by omega) rfl ?_
    refine op_loadE (nxlf rfl) sc22 rfl sF (by first | exact get8 (by omega) | exact get64 (by omega) | exact get32 (by omega) | exact hv') (by first | exact mem0 | exact mem1 | exact mem2 | exact mem3 | exact mem4 | exact mem5 | exact mem6 | exact mem7 | exact mem8 | exact mem9) rfl ?_
    refine op_lenS (nxlf rfl) se22 rfl rfl ?_
    refine op_lss (nxlf rfl) rfl rfl rfl ?_
    refine At.opsNil ?_
    refine At.norm (hk_11 ?_)
    refine At.condP rfl (fun c44 => ?_) (fun c44 => ?_)
    · refine At.skip ?_
      refine At.norm (hk_10 ?_)
      refine At.seq fun K12 hk_12 => ?_
      refine At.block ?_
      refine At.region ?_
      refine op_move (nxlf rfl) rfl rfl ?_
      refine op_nilChk (nxlf rfl) rfl rfl ?_
      refine op_fieldAddr (nxlf rfl) fl57_0 rfl rfl ?_
      refine op_loadB (nxlf rfl) sc55 rfl B0 (by first | rfl) mem0 rfl ?_
      refine op_move (nxlf rfl) rfl rfl ?_
      refine op_idx1 (nxlf rfl) se55 rfl rfl sF (show _ = (((i : Nat)) : Int) from by omega) (by omega) rfl ?_
      refine op_loadE (nxlf rfl) sc22 rfl sF (by first | exact get8 (by omega) | exact get64 (by omega) | exact get32 (by omega) | exact hv') (by first | exact mem0 | exact mem1 | exact mem2 | exact mem3 | exact mem4 | exact mem5 | exact mem6 | exact mem7 | exact mem8 | exact mem9) rfl ?_
      refine op_move (nxlf rfl) rfl rfl ?_
      refine op_idx1 (nxlf rfl) se22 rfl rfl hrs' (show _ = (((k : Nat)) : Int) from by omega) (by omega) rfl ?_
      refine op_storeU (nxl rfl) sz5 rfl rfl rfl rfl rfl hr' (by simp <;> omega) (by simp) sel4 (fun NJ rJ oJ => ?_)
      change Row NJ _ 1 p' y.length c' (setL (u8s y) k [.int .u8 (((90 : UInt8).toNat : Nat) : Int)]) at rJ
      rw [set8R] at rJ
      refine At.opsNil ?_
      refine At.inNorm ?_
      refine At.norm (hk_12 ?_)
      refine At.region ?_
      refine op_move (nxlf rfl) rfl rfl ?_
      refine op_addI (nxlf rfl) rfl rfl (by omega) (by omega) rfl ?_
      refine op_assign (nxlf rfl) rfl rfl ?_
      refine At.opsNil ?_
      refine At.norm ?_
      refine At.perm sel5 ?_
      refine At.perm sel1 ?_
      refine At.perm sel5 ?_
      refine At.perm sel5 ?_
      refine At.perm sel5 ?_
      refine At.perm sel5 ?_
      refine At.back ?_ (.refl _) ⟨k + 1, NJ, hs.set i (y.set k 90), y.set k 90, rfl, rfl, rfl, by omega, hh.set hv' rJ oJ, by rw [List.length_set, hhl], set_get hy, by rw [List.length_set, hyl], fun j hj => by rw [get_set_ne (by omega), hhf j hj]⟩ ?_
      · exact .cons (by first | exact lkI rfl (by omega) | rfl) (.cons (by first | exact lkI rfl (by omega) | rfl) (.cons (by first | exact lkI rfl (by omega) | rfl) (.cons (by first | exact lkI rfl (by omega) | rfl) .nil)))
      · omega
    · refine At.exit (At.thenExit (At.thenExit (At.inHit ?_)))
      refine At.inNorm ?_
      refine At.norm (hk_7 ?_)
      refine At.region ?_
      refine op_move (nxlf rfl) rfl rfl ?_
      refine op_addI (nxlf rfl) rfl rfl (by omega) (by omega) rfl ?_
      refine op_assign (nxlf rfl) rfl rfl ?_
      refine At.opsNil ?_
      refine At.norm ?_
      refine At.back ?_ (.refl _) ⟨i + 1, NI, hs, rfl, rfl, rfl, by omega, hh, hhl, hhf⟩ ?_
      · exact .cons (by first | exact lkI rfl (by omega) | rfl) (.cons (by first | exact lkI rfl (by omega) | rfl) (.cons (by first | exact lkI rfl (by omega) | rfl) .nil))
      · omega
  · refine At.exit (At.thenExit (At.thenExit (At.inHit ?_)))
    refine At.norm (hk_3 ?_)
    refine At.seq fun K13 hk_13 => ?_
    refine At.region ?_
    refine op_move (nxlf rfl) rfl rfl ?_
    refine op_assign (nxlf rfl) rfl rfl ?_
    refine At.opsNil ?_
    refine At.norm (hk_13 ?_)
    refine At.ret (?_)
    refine At.sub (L' := [R]) (.cons _ (.cons _ (.cons _ (.cons _ (.cons _ (.cons_cons _ (.slnil))))))) ?_
    refine At.ret1 (L1 := []) rfl (.tmp rfl .nil) (.refl _) (.refl _) ?_
    exact ⟨rfl, rfl⟩
end Go.Proofs.Ytohmmgggaegbbaa
