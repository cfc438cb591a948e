/- quarrylaw05.RlpPieces answers true. No condition. -/
import Derived.Test.YtohmmgggaegbbaaV6
namespace Go.Proofs.Ytohmmgggaegbbaa
set_option linter.unusedVariables false
set_option linter.unusedSimpArgs false
open Go Go.RowKit
/-- The payload. -/
def It.pay : It → List UInt8
  | .mk l bs its => if l then It.forms its else bs
def It.isL : It → Bool
  | .mk l _ _ => l
theorem cut_form {t : It} {rest : List UInt8} (h : t.form.length < 2 ^ 64) : cutF (t.form ++ rest) = some (t.isL, t.pay, rest) := by
  obtain ⟨l, bs, its⟩ := t
  cases l with
  | false => exact cut_text h
  | true => exact cut_list h
theorem forms_drop {ts : List It} {k : Nat} {t : It} (h : ts[k]? = some t) : It.forms (ts.drop k) = t.form ++ It.forms (ts.drop (k + 1)) := by
  obtain ⟨h1, rfl⟩ := List.getElem?_eq_some_iff.1 h
  rw [List.drop_eq_getElem_cons h1, It.forms]
theorem cell0 {xs : List IV} {k : Nat} {x : IV} {b : Bool} (h : xs[k]? = some x) (hl : x.l = b) : (cellsI xs)[k * 3 + 0]? = some (.bool b) := by
  have e := cells_at h
  have : ((cellsI xs).drop (k * 3) |>.take 3)[0]? = some (.bool x.l) := by rw [e]; rfl
  rw [List.getElem?_take, if_pos (by omega), List.getElem?_drop] at this
  rw [this, hl]
theorem cell1 {xs : List IV} {k : Nat} {x : IV} (h : xs[k]? = some x) : (cellsI xs)[k * 3 + 1]? = some (.slice x.ab x.nb x.cb) := by
  have e := cells_at h
  have : ((cellsI xs).drop (k * 3) |>.take 3)[1]? = some (.slice x.ab x.nb x.cb) := by rw [e]; rfl
  rwa [List.getElem?_take, if_pos (by omega), List.getElem?_drop] at this
theorem Split_form {N : Heaplet} {ao : Option Addr} {n cap : Nat} {t : It} {rest : List UInt8} (h : RSl N 1 ao n cap (u8s (t.form ++ rest))) (hn : n ≤ 1099511627776) :
    Fn Try.prog 23 #[.slice ao n cap] [] [N] (fun v L => (∃ M1 M2 a1 c1 a2 c2, t.isL = false ∧ v = .tuple #[.bool false, .slice a1 t.pay.length c1, .slice a2 rest.length c2, .int .i64 0] ∧ L = [M1, M2] ∧ RSl M1 1 a1 t.pay.length c1 (u8s t.pay) ∧ RSl M2 1 a2 rest.length c2 (u8s rest)) ∨
      ∃ M1 M2 a1 c1 a2 c2, t.isL = true ∧ v = .tuple #[.bool true, .slice a1 t.pay.length c1, .slice a2 rest.length c2, .int .i64 0] ∧ L = [M1, M2] ∧ RSl M1 1 a1 t.pay.length c1 (u8s t.pay) ∧ RSl M2 1 a2 rest.length c2 (u8s rest)) := by
  have hl := h.len8
  rw [List.length_append] at hl
  have hc := cut_form (t := t) (rest := rest) (by omega)
  cases hL : t.isL with
  | false =>
    rw [hL] at hc
    exact (Split_text h hn hc).mono fun v L ⟨M1, M2, a1, c1, a2, c2, h1, h2, h3, h4⟩ => .inl ⟨M1, M2, a1, c1, a2, c2, rfl, h1, h2, h3.rsl, h4.rsl⟩
  | true =>
    rw [hL] at hc
    exact (Split_list h hn hc).mono fun v L ⟨M1, M2, a1, c1, a2, c2, h1, h2, h3, h4⟩ => .inr ⟨M1, M2, a1, c1, a2, c2, rfl, h1, h2, h3.rsl, h4.rsl⟩
theorem ItN.isl {N : Heaplet} {t : It} {x : IV} (h : ItN N t x) : x.l = t.isL := by
  obtain ⟨l, bs, its⟩ := t
  exact h.1
theorem ItN.txt {N : Heaplet} {t : It} {x : IV} (h : ItN N t x) (hl : t.isL = false) : RSl N 1 x.ab x.nb x.cb (u8s t.pay) := by
  obtain ⟨l, bs, its⟩ := t
  simp only [It.isL] at hl
  subst hl
  exact h.2.1
set_option maxRecDepth 100000 in
theorem RlpPieces_f {N N' : Heaplet} {ts : List It} {xs0 : List IV} {ao : Option Addr} {n cap : Nat} (h : RSl N 3 ao n cap (cellsI xs0)) (hX : ItsN N' ts xs0) :
    Fn Try.prog 8 #[.slice ao n cap] [] [N, N'] (fun v L => v = .bool true ∧ L = []) := by
  have hn : xs0.length = n := by have := h.1; rw [length_cellsI] at this; omega
  have hn2 := hX.length
  have hcap := h.cap63
  refine Fn.enter (vs := [.slice ao n cap]) Try.func8 rfl rfl rfl ?_
  intro E R hR
  have h := h.le (hR N (by simp))
  have hX := hX.le (hR N' (by simp))
  change At _ _ E [R] _
  refine At.seq fun K1 hk_1 => ?_
  refine At.region ?_
  refine op_assign (nxlf rfl) rfl rfl ?_
  refine At.opsNil ?_
  refine At.norm (hk_1 ?_)
  refine At.seq fun K2 hk_2 => ?_
  refine At.region ?_
  refine op_assign (nxlf rfl) rfl rfl ?_
  refine At.opsNil ?_
  refine At.norm (hk_2 ?_)
  refine At.seq fun K3 hk_3 => ?_
  refine At.region ?_
  refine op_assign (nxlf rfl) rfl rfl ?_
  refine At.opsNil ?_
  refine At.norm (hk_3 ?_)
  refine At.seq fun K4 hk_4 => ?_
  refine At.seq fun K5 hk_5 => ?_
  refine At.region ?_
  refine op_assign (nxlf rfl) rfl rfl ?_
  refine At.opsNil ?_
  refine At.norm (hk_5 ?_)
  refine At.block ?_
  refine At.empty ?_
  refine At.empty ?_
  refine At.empty ?_
  refine At.perm sel3 ?_
  refine At.perm sel1 ?_
  refine At.perm sel2 ?_
  refine At.perm sel3 ?_
  refine At.loop (fun fr_ hp_ ms_ => ∃ (i : Nat) (al : Option Addr) (nl cl : Nat) (aa : Option Addr) (na ca : Nat) (its : List It) (xs : List IV) (Nr Ns Na : Heaplet), fr_ = [(0, .slice ao n cap), (3, .slice aa na ca), (4, .slice al nl cl), (5, .int .i64 (i : Int))] ∧ hp_ = [Nr, Ns, Na, R] ∧ 30 - i = ms_ ∧ (i ≤ 30) ∧ (xs.length = nl) ∧ (nl ≤ i) ∧ (Row Nr 25 3 al nl cl (cellsI xs)) ∧ (ItsN Ns its xs) ∧ (Row Na 5 1 aa na ca (u8s (It.forms its))) ∧ (It.depths its ≤ 21) ∧ (sizesT its ≤ i * 100000)) ?_ (.refl _) ⟨0, none, 0, 0, none, 0, 0, [], [], nilH, nilH, nilH, rfl, rfl, rfl, by omega, rfl, by omega, Row.nil _ _ _, rfl, Row.nil _ _ _, by simp [It.depths], by simp [sizesT]⟩ ?_
  · exact .cons (by first | exact lkI rfl (by omega) | rfl) (.cons (by first | exact lkI rfl (by omega) | rfl) (.cons (by first | exact lkI rfl (by omega) | rfl) (.cons (by first | exact lkI rfl (by omega) | rfl) .nil)))
  rintro _ _ _ ⟨i, al, nl, cl, aa, na, ca, its, xs, Nr, Ns, Na, rfl, rfl, rfl, hi, hnl, hle, rr, hs, ra, hdd, hsz⟩
  have sr := rr.rsl
  have sa := ra.rsl
  have hna := sa.len8
  have hfl : (It.forms its).length ≤ 3000000 := Nat.le_trans (forms_size _ (by omega)) (by omega)
  refine At.seq fun K6 hk_6 => ?_
  refine At.seq fun K7 hk_7 => ?_
  refine At.region ?_
  refine op_move (nxlf rfl) rfl rfl ?_
  refine op_move (nxlf rfl) rfl rfl ?_
  refine op_lenS (nxlf rfl) se23 rfl rfl ?_
  refine op_lss (nxlf rfl) rfl rfl rfl ?_
  refine op_move (nxlf rfl) rfl rfl ?_
  refine At.partP (d := 27) rfl (fun g27 => ?_) (fun g27 => ?_)
  · have hlt : i < ts.length := by omega
    obtain ⟨y, hy, hyi⟩ := hX.get (List.getElem?_eq_getElem hlt)
    refine op_move (nxgf rfl rfl rfl rfl) rfl rfl ?_
    refine op_lss (nxgf rfl rfl rfl rfl) rfl rfl rfl ?_
    refine op_pickT (nxlf rfl) rfl rfl rfl ?_
    refine At.opsNil ?_
    refine At.norm (hk_7 ?_)
    refine At.condP rfl (fun c30 => ?_) (fun c30 => ?_)
    · refine At.skip ?_
      refine At.norm (hk_6 ?_)
      refine At.seq fun K8 hk_8 => ?_
      refine At.block ?_
      refine At.seq fun K9 hk_9 => ?_
      refine At.region ?_
      refine op_alloc (nxla rfl) ze3 rfl (fun N6 b6 B6 => ?_)
      change Blk N6 b6 _ [.int .i64 0] at B6
      refine op_store (nxl rfl) sz3 rfl rfl rfl rfl rfl B6 (by simp) sel0 (fun N6 B6 => ?_)
      simp only [setL, List.set] at B6
      refine At.opsNil ?_
      refine At.norm (hk_9 ?_)
      refine At.seq fun K10 hk_10 => ?_
      refine At.region ?_
      refine op_move (nxlf rfl) rfl rfl ?_
      refine op_move (nxlf rfl) rfl rfl ?_
      refine op_idxE (nxlf rfl) se23 rfl rfl (by assumption) (show _ = (((i : Nat)) : Int) from by omega) (by omega) rfl ?_
      refine op_loadAggE (nxlf rfl) ag25 rfl (by assumption) (by exact cells_at hy) (by rfl) (by omega) (by first | exact mem0 | exact mem1 | exact mem2 | exact mem3 | exact mem4 | exact mem5 | exact mem6 | exact mem7 | exact mem8 | exact mem9) rfl ?_
      refine op_call (nxl rfl) (.cons rfl (.cons rfl (.cons rfl .nil))) (Twin_f ts[i] R N6 y b6 20 200 20 hyi B6 (by omega) (by omega) (by omega) (by omega)) (F := [Nr, Ns, Na, R]) Try.func25 rfl rfl (.refl _) (by simp) rfl ?_
      rintro v37 L37 ⟨N6, M37, z, t', lf, rfl, rfl, B6, hz, hdz, hsz2, hlz⟩
      change At _ _ _ [N6, M37, Nr, Ns, Na, R] _
      have htl : t'.form.length ≤ 100000 := Nat.le_trans (form_size _ (by omega)) (by omega)
      refine op_alloc (nxla rfl) ze25 rfl (fun N7 b7 B7 => ?_)
      change Blk N7 b7 _ [.bool false, .slice none 0 0, .slice none 0 0] at B7
      refine op_store (nxl rfl) sz25 rfl rfl rfl rfl rfl B7 (by simp) sel0 (fun N7 B7 => ?_)
      simp only [setL, List.set] at B7
      refine At.opsNil ?_
      refine At.norm (hk_10 ?_)
      refine At.seq fun K11 hk_11 => ?_
      refine At.region ?_
      refine op_loadAggB (ds := [_, _, _]) (nxlf rfl) ag25 rfl B7 rfl rfl mem0 rfl ?_
      refine op_callA (nxla rfl) (.cons rfl .nil) (Encode_ok hz (by omega) (by omega)) Try.func13 rfl rfl (by simp) rfl ?_
      rintro v40 L40 ⟨M40, a40, p40, rfl, rfl, r40⟩
      change At _ _ _ [M40, N7, N6, M37, Nr, Ns, Na, R] _
      have s40 := r40.rsl
      refine op_move (nxlf rfl) rfl rfl ?_
      refine op_extract (nxlf rfl) rfl rfl rfl ?_
      refine op_extract (nxlf rfl) rfl rfl rfl ?_
      refine op_assign (nxlf rfl) rfl rfl ?_
      refine op_assign (nxlf rfl) rfl rfl ?_
      refine At.opsNil ?_
      refine At.norm (hk_11 ?_)
      refine At.seq fun K12 hk_12 => ?_
      refine At.seq fun K13 hk_13 => ?_
      refine At.region ?_
      refine op_move (nxlf rfl) rfl rfl ?_
      refine op_neq (nxlf rfl) rfl rfl rfl ?_
      refine At.opsNil ?_
      refine At.norm (hk_13 ?_)
      refine At.condF rfl ?_
      refine At.skip ?_
      refine At.norm (hk_12 ?_)
      refine At.seq fun K14 hk_14 => ?_
      refine At.region ?_
      refine op_move (nxlf rfl) rfl rfl ?_
      refine op_loadAggB (ds := [_, _, _]) (nxlf rfl) ag25 rfl B7 rfl rfl mem1 rfl ?_
      refine op_lit (nxla rfl) Try.underlying23 ze25 sz25 (.cons rfl .nil) rfl rfl (by simp [Value.cells]) rfl rfl rfl (fun N47 a47 r47 => ?_)
      simp only [flatV, List.flatMap_cons, List.flatMap_nil, Value.cells, List.append_nil, List.cons_append, List.nil_append] at r47
      have s47 := r47.rsl
      refine op_append (nxl rfl) Try.underlying23 Try.underlying23 te25 rfl rfl rr (by assumption) (by first | exact mem0 | exact mem1 | exact mem2 | exact mem3 | exact mem4 | exact mem5 | exact mem6 | exact mem7 | exact mem8 | exact mem9) (by intro u hu; simp at hu; rcases hu with rfl | rfl | rfl <;> rfl) (by omega) (by omega) sel5 rfl (fun N48 a48 p48 r48 => ?_)
      have s48 := r48.rsl
      refine op_assign (nxlf rfl) rfl rfl ?_
      refine At.opsNil ?_
      refine At.norm (hk_14 ?_)
      refine At.region ?_
      refine op_move (nxlf rfl) rfl rfl ?_
      refine op_move (nxlf rfl) rfl rfl ?_
      refine op_append (nxl rfl) Try.underlying22 Try.underlying22 te5 rfl rfl ra (by assumption) (by first | exact mem0 | exact mem1 | exact mem2 | exact mem3 | exact mem4 | exact mem5 | exact mem6 | exact mem7 | exact mem8 | exact mem9) (by first | exact one_u8s _ | exact one_u64s _ | exact one_u32s _ | (intro u hu; simp at hu; subst hu; rfl)) (by omega) (by omega) sel7 rfl (fun N51 a51 p51 r51 => ?_)
      have s51 := r51.rsl
      refine op_assign (nxlf rfl) rfl rfl ?_
      refine At.opsNil ?_
      refine At.inNorm ?_
      refine At.norm (hk_8 ?_)
      refine At.region ?_
      refine op_move (nxlf rfl) rfl rfl ?_
      refine op_addI (nxlf rfl) rfl rfl (by omega) (by omega) rfl ?_
      refine op_assign (nxlf rfl) rfl rfl ?_
      refine At.opsNil ?_
      refine At.norm ?_
      refine At.perm sel8 ?_
      refine At.perm sel6 ?_
      refine At.perm sel6 ?_
      refine At.perm sel6 ?_
      refine At.perm sel6 ?_
      refine At.perm sel6 ?_
      refine At.perm sel6 ?_
      refine At.perm sel7 ?_
      refine At.perm sel8 ?_
      refine At.mergeN (fun Nz Nz1 Nz2 => ?_)
      refine At.sub (L' := [Nz, N51, N48, R]) (.cons_cons _ (.cons_cons _ (.cons_cons _ (.cons _ (.cons _ (.cons _ (.cons _ (.cons_cons _ (.slnil))))))))) ?_
      refine At.perm sel3 ?_
      refine At.perm sel2 ?_
      refine At.perm sel2 ?_
      refine At.perm sel3 ?_
      refine At.back ?_ (.refl _) ⟨i + 1, a48, nl + 1, p48, a51, na + t'.form.length, p51, its ++ [t'], xs ++ [z], N48, Nz, N51, rfl, rfl, rfl, by omega, by simp [hnl], by omega, by rw [cellsI, List.flatMap_append]; exact r48, (hs.le Nz1).snoc (hz.le Nz2), by rw [forms_append, It.forms, It.forms, List.append_nil, u8s, List.map_append]; exact r51, by rw [depths_snoc]; omega, by rw [sizesT_snoc]; omega⟩ ?_
      · exact .cons (by first | exact lkI rfl (by omega) | rfl) (.cons (by first | exact lkI rfl (by omega) | rfl) (.cons (by first | exact lkI rfl (by omega) | rfl) (.cons (by first | exact lkI rfl (by omega) | rfl) .nil)))
      · omega
    · refine At.exit (At.thenExit (At.thenExit (At.inHit ?_)))
      refine At.norm (hk_4 ?_)
      refine At.seq fun K15 hk_15 => ?_
      refine At.region ?_
      refine op_move (nxlf rfl) rfl rfl ?_
      refine op_build (out := [_, .slice none 0 0, _]) (nxlf rfl) ze25 pl25 (.cons rfl (.cons rfl .nil)) rfl rfl ?_
      refine At.mergeN (fun J J1 J2 => ?_)
      obtain ⟨wt, hIt, hwl, hwd, hcw⟩ : ∃ wt : It, ItN J wt ⟨true, none, 0, 0, al, nl, cl⟩ ∧ wt.form.length ≤ 3000009 ∧ wt.depth ≤ 1024 ∧ cutF wt.form = some (true, It.forms its, []) := by
        have h9 := rlpHead_le 192 (It.forms its).length (Nat.lt_of_le_of_lt hfl (by decide))
        have hwl : (It.mk true [] its).form.length ≤ 3000009 := by
          rw [form_true, List.length_append]
          exact Nat.le_trans (Nat.add_le_add h9 hfl) (by decide)
        refine ⟨.mk true [] its, ItN.mk (RSl.nil _ _) (sr.le J1) (hs.le J2), hwl, by rw [It.depth]; exact Nat.le_trans (Nat.succ_le_succ hdd) (by decide), ?_⟩
        have e := cut_list (bs := []) (its := its) (rest := []) (Nat.lt_of_le_of_lt hwl (by decide))
        rwa [List.append_nil] at e
      have hnits := hs.length
      refine op_callA (nxla rfl) (.cons rfl .nil) (Encode_ok (t := wt) (x := ⟨true, none, 0, 0, al, nl, cl⟩) (N := J) hIt (Nat.le_trans hwl (by decide)) hwd) Try.func13 rfl rfl (by simp) rfl ?_
      rintro v55 L55 ⟨M55, a55, p55, rfl, rfl, r55⟩
      change At _ _ _ [M55, J, Na, R] _
      have s55 := r55.rsl
      refine op_move (nxlf rfl) rfl rfl ?_
      refine op_extract (nxlf rfl) rfl rfl rfl ?_
      refine op_extract (nxlf rfl) rfl rfl rfl ?_
      refine op_assign (nxlf rfl) rfl rfl ?_
      refine op_assign (nxlf rfl) rfl rfl ?_
      refine At.opsNil ?_
      refine At.norm (hk_15 ?_)
      refine At.seq fun K16 hk_16 => ?_
      refine At.region ?_
      refine op_move (nxlf rfl) rfl rfl ?_
      refine op_callA (nxla rfl) (.cons rfl .nil) (Split_list s55 (by omega) hcw) Try.func23 rfl rfl (by simp) rfl ?_
      rintro v60 L60 ⟨M60, W60, a60, c60, d60, e60, rfl, rfl, r60, t60⟩
      change At _ _ _ [M60, W60, M55, J, Na, R] _
      have s60 := r60.rsl
      refine op_move (nxlf rfl) rfl rfl ?_
      refine op_extract (nxlf rfl) rfl rfl rfl ?_
      refine op_extract (nxlf rfl) rfl rfl rfl ?_
      refine op_extract (nxlf rfl) rfl rfl rfl ?_
      refine op_extract (nxlf rfl) rfl rfl rfl ?_
      refine op_assign (nxlf rfl) rfl rfl ?_
      refine op_assign (nxlf rfl) rfl rfl ?_
      refine op_assign (nxlf rfl) rfl rfl ?_
      refine op_assign (nxlf rfl) rfl rfl ?_
      refine At.opsNil ?_
      refine At.norm (hk_16 ?_)
      refine At.seq fun K17 hk_17 => ?_
      refine At.seq fun K18 hk_18 => ?_
      refine At.region ?_
      refine op_move (nxlf rfl) rfl rfl ?_
      refine op_neq (nxlf rfl) rfl rfl rfl ?_
      refine op_move (nxlf rfl) rfl rfl ?_
      refine op_move (nxgf rfl rfl rfl rfl) rfl rfl ?_
      refine op_neq (nxgf rfl rfl rfl rfl) rfl rfl rfl ?_
      refine op_pickF (nxlf rfl) rfl rfl rfl ?_
      refine op_move (nxlf rfl) rfl rfl ?_
      refine op_move (nxgf rfl rfl rfl rfl) rfl rfl ?_
      refine op_not (nxgf rfl rfl rfl rfl) rfl rfl ?_
      refine op_pickF (nxlf rfl) rfl rfl rfl ?_
      refine op_move (nxlf rfl) rfl rfl ?_
      refine op_move (nxgf rfl rfl rfl rfl) rfl rfl ?_
      refine op_str (nxgf rfl rfl rfl rfl) Try.underlying22 Try.underlying5 Try.underlying9 rfl (by assumption) (by first | exact mem0 | exact mem1 | exact mem2 | exact mem3 | exact mem4 | exact mem5 | exact mem6 | exact mem7 | exact mem8 | exact mem9) rfl ?_
      refine op_move (nxgf rfl rfl rfl rfl) rfl rfl ?_
      refine op_str (nxgf rfl rfl rfl rfl) Try.underlying22 Try.underlying5 Try.underlying9 rfl (by assumption) (by first | exact mem0 | exact mem1 | exact mem2 | exact mem3 | exact mem4 | exact mem5 | exact mem6 | exact mem7 | exact mem8 | exact mem9) rfl ?_
      refine op_neS (nxgf rfl rfl rfl rfl) rfl rfl rfl ?_
      refine op_pickF (nxlf rfl) rfl rfl rfl ?_
      refine op_move (nxlf rfl) rfl rfl ?_
      refine At.partP (d := 82) rfl (fun g82 => ?_) (fun g82 => ?_)
      · exact absurd rfl g82
      · refine op_move (nxgf rfl rfl rfl rfl) rfl rfl ?_
        refine op_lenS (nxgf rfl rfl rfl rfl) se22 rfl rfl ?_
        refine op_neq (nxgf rfl rfl rfl rfl) rfl rfl rfl ?_
        refine op_pickF (nxlf rfl) rfl rfl rfl ?_
        refine At.opsNil ?_
        refine At.norm (hk_18 ?_)
        refine At.condP rfl (fun c86 => ?_) (fun c86 => ?_)
        · simp at c86
        · refine At.skip ?_
          refine At.norm (hk_17 ?_)
          refine At.seq fun K19 hk_19 => ?_
          refine At.seq fun K20 hk_20 => ?_
          refine At.region ?_
          refine op_assign (nxlf rfl) rfl rfl ?_
          refine At.opsNil ?_
          refine At.norm (hk_20 ?_)
          refine At.block ?_
          refine At.sub (L' := [J, Na, R]) (.cons _ (.cons _ (.cons _ (.cons_cons _ (.cons_cons _ (.cons_cons _ (.slnil))))))) ?_
          refine At.loop (fun fr_ hp_ ms_ => ∃ (k : Nat) (ab : Option Addr) (nb cb : Nat), fr_ = [(3, .slice ab nb cb), (4, .slice al nl cl), (16, .int .i64 (k : Int))] ∧ hp_ = [J, Na, R] ∧ nl - k = ms_ ∧ (k ≤ nl) ∧ (nb ≤ 3000000) ∧ (RSl Na 1 ab nb cb (u8s (It.forms (its.drop k))))) ?_ (.refl _) ⟨0, aa, na, ca, rfl, rfl, rfl, by omega, by omega, sa⟩ ?_
          · exact .cons (by first | exact lkI rfl (by omega) | rfl) (.cons (by first | exact lkI rfl (by omega) | rfl) (.cons (by first | exact lkI rfl (by omega) | rfl) .nil))
          rintro _ _ _ ⟨k, ab, nb, cb, rfl, rfl, rfl, hk, hb3, sb⟩
          have hnb := sb.len8
          have hcb := sb.cap63
          have sj := sr.le J1
          have hj := hs.le J2
          refine At.seq fun K21 hk_21 => ?_
          refine At.seq fun K22 hk_22 => ?_
          refine At.region ?_
          refine op_move (nxlf rfl) rfl rfl ?_
          refine op_move (nxlf rfl) rfl rfl ?_
          refine op_lenS (nxlf rfl) se23 rfl rfl ?_
          refine op_lss (nxlf rfl) rfl rfl rfl ?_
          refine At.opsNil ?_
          refine At.norm (hk_22 ?_)
          refine At.condP rfl (fun c90 => ?_) (fun c90 => ?_)
          · have klt : k < its.length := by omega
            obtain ⟨y, hy, hyi⟩ := hj.get (List.getElem?_eq_getElem klt)
            have hfd := forms_drop (List.getElem?_eq_getElem klt)
            have hnf : its[k].form.length + (It.forms (its.drop (k + 1))).length = nb := by rw [← hnb, hfd, List.length_append]
            have hal := sj.isSome (by omega)
            have hdk : its[k].depth ≤ 21 := depths_le.1 hdd _ (List.getElem_mem klt)
            refine At.skip ?_
            refine At.norm (hk_21 ?_)
            refine At.seq fun K23 hk_23 => ?_
            refine At.block ?_
            refine At.seq fun K24 hk_24 => ?_
            refine At.region ?_
            refine op_move (nxlf rfl) rfl rfl ?_
            refine op_move (nxlf rfl) rfl rfl ?_
            refine op_idxE (nxlf rfl) se23 rfl rfl (by assumption) (show _ = (((k : Nat)) : Int) from by omega) (by omega) rfl ?_
            refine op_loadAggE (nxlf rfl) ag25 rfl (by assumption) (by exact cells_at hy) (by rfl) (by omega) (by first | exact mem0 | exact mem1 | exact mem2 | exact mem3 | exact mem4 | exact mem5 | exact mem6 | exact mem7 | exact mem8 | exact mem9) rfl ?_
            refine op_callA (nxla rfl) (.cons rfl .nil) (Encode_ok hyi (by omega) (by omega)) Try.func13 rfl rfl (by simp) rfl ?_
            rintro v98 L98 ⟨M98, a98, p98, rfl, rfl, r98⟩
            change At _ _ _ [M98, J, Na, R] _
            refine op_move (nxlf rfl) rfl rfl ?_
            refine op_extract (nxlf rfl) rfl rfl rfl ?_
            refine op_extract (nxlf rfl) rfl rfl rfl ?_
            refine op_assign (nxlf rfl) rfl rfl ?_
            refine op_assign (nxlf rfl) rfl rfl ?_
            refine At.opsNil ?_
            refine At.norm (hk_24 ?_)
            refine At.seq fun K25 hk_25 => ?_
            refine At.region ?_
            refine op_lit (nxla rfl) Try.underlying22 ze5 sz5 .nil rfl rfl (by simp [Value.cells]) rfl rfl rfl (fun N102 a102 r102 => ?_)
            simp only [flatV, List.flatMap_cons, List.flatMap_nil, Value.cells, List.append_nil, List.cons_append, List.nil_append] at r102
            have s102 := r102.rsl
            refine op_move (nxlf rfl) rfl rfl ?_
            refine op_append (nxl rfl) Try.underlying22 Try.underlying22 te5 rfl rfl r102 (by assumption) (by first | exact mem0 | exact mem1 | exact mem2 | exact mem3 | exact mem4 | exact mem5 | exact mem6 | exact mem7 | exact mem8 | exact mem9) (by first | exact one_u8s _ | exact one_u64s _ | exact one_u32s _ | (intro u hu; simp at hu; subst hu; rfl)) (by omega) (by omega) sel0 rfl (fun N104 a104 p104 r104 => ?_)
            have s104 := r104.rsl
            have s105 : RSl N104 1 a104 (0 + nb) p104 (u8s (its[k].form ++ It.forms (its.drop (k + 1)))) := by rw [← hfd]; exact s104
            refine op_callA (nxla rfl) (.cons rfl .nil) (Split_form s105 (by omega)) Try.func23 rfl rfl (by simp) rfl ?_
            rintro v105 L105 (⟨M105, W105, a105, c105, d105, e105, hL, rfl, rfl, s106, s107⟩ | ⟨M105, W105, a105, c105, d105, e105, hL, rfl, rfl, s106, s107⟩)
            · change At _ _ _ [M105, W105, N104, M98, J, Na, R] _
              have hyl : y.l = false := hyi.isl.trans hL; have hyt := hyi.txt hL
              refine op_move (nxlf rfl) rfl rfl ?_
              refine op_extract (nxlf rfl) rfl rfl rfl ?_
              refine op_extract (nxlf rfl) rfl rfl rfl ?_
              refine op_extract (nxlf rfl) rfl rfl rfl ?_
              refine op_extract (nxlf rfl) rfl rfl rfl ?_
              refine op_assign (nxlf rfl) rfl rfl ?_
              refine op_assign (nxlf rfl) rfl rfl ?_
              refine op_assign (nxlf rfl) rfl rfl ?_
              refine op_assign (nxlf rfl) rfl rfl ?_
              refine At.opsNil ?_
              refine At.norm (hk_25 ?_)
              refine At.seq fun K26 hk_26 => ?_
              refine At.seq fun K27 hk_27 => ?_
              refine At.drawn [] [0,1,2,3,4,5,6,7,8,9,10,11,12,13,14,15,16,17,18,19,20,21,22,23,24,25,26,27,28,29,30,31,32,33,34,35,36,37,38,39] (by kernel_rfl) (by kernel_rfl) ?_
              refine op_move (nxof rfl rfl rfl (by kernel_rfl)) rfl rfl ?_
              refine op_neq (nxof rfl rfl rfl (by kernel_rfl)) rfl rfl rfl ?_
              refine op_move (nxof rfl rfl rfl (by kernel_rfl)) rfl rfl ?_
              refine op_move (nxogf rfl rfl rfl rfl rfl rfl (by kernel_rfl)) rfl rfl ?_
              refine op_move (nxogf rfl rfl rfl rfl rfl rfl (by kernel_rfl)) rfl rfl ?_
              refine op_move (nxogf rfl rfl rfl rfl rfl rfl (by kernel_rfl)) rfl rfl ?_
              refine op_idxE (nxogf rfl rfl rfl rfl rfl rfl (by kernel_rfl)) se23 rfl rfl (by assumption) (show _ = (((k : Nat)) : Int) from by omega) (by omega) rfl ?_
              refine op_fieldAddrE (nxogf rfl rfl rfl rfl rfl rfl (by kernel_rfl)) fl25_0 rfl (by first | rfl | assumption) rfl ?_
              refine op_loadE (nxogf rfl rfl rfl rfl rfl rfl (by kernel_rfl)) sc4 rfl (by assumption) (by first | exact get8 (by omega) | exact get64 (by omega) | exact get32 (by omega) | exact cell0 hy hyl) (by first | exact mem0 | exact mem1 | exact mem2 | exact mem3 | exact mem4 | exact mem5 | exact mem6 | exact mem7 | exact mem8 | exact mem9) rfl ?_
              refine op_neB (nxogf rfl rfl rfl rfl rfl rfl (by kernel_rfl)) Try.underlying4 rfl rfl rfl ?_
              refine op_pickF (nxof rfl rfl rfl (by kernel_rfl)) rfl rfl rfl ?_
              refine op_move (nxof rfl rfl rfl (by kernel_rfl)) rfl rfl ?_
              refine op_move (nxogf rfl rfl rfl rfl rfl rfl (by kernel_rfl)) rfl rfl ?_
              refine op_str (nxogf rfl rfl rfl rfl rfl rfl (by kernel_rfl)) Try.underlying22 Try.underlying5 Try.underlying9 rfl (by assumption) (by first | exact mem0 | exact mem1 | exact mem2 | exact mem3 | exact mem4 | exact mem5 | exact mem6 | exact mem7 | exact mem8 | exact mem9) rfl ?_
              refine op_move (nxogf rfl rfl rfl rfl rfl rfl (by kernel_rfl)) rfl rfl ?_
              refine op_move (nxogf rfl rfl rfl rfl rfl rfl (by kernel_rfl)) rfl rfl ?_
              refine op_lenS (nxogf rfl rfl rfl rfl rfl rfl (by kernel_rfl)) se22 rfl rfl ?_
              refine op_slice (nxogf rfl rfl rfl rfl rfl rfl (by kernel_rfl)) se22 rfl (.some rfl (show _ = (((its[k].form.length : Nat)) : Int) from by omega)) .none .none (by omega) (by omega) (by omega) (by simp) rfl ?_
              have s127 : RSl Na 1 (sadr ab its[k].form.length cb 1) (nb - its[k].form.length) (cb - its[k].form.length) (u8s (It.forms (its.drop (k + 1)))) := by
                have e := sb.drop8 (lo := its[k].form.length) (by omega)
                rwa [hfd, List.drop_append_of_le_length (Nat.le_refl _), List.drop_length, List.nil_append] at e
              refine op_str (nxogf rfl rfl rfl rfl rfl rfl (by kernel_rfl)) Try.underlying22 Try.underlying5 Try.underlying9 rfl (by assumption) (by first | exact mem0 | exact mem1 | exact mem2 | exact mem3 | exact mem4 | exact mem5 | exact mem6 | exact mem7 | exact mem8 | exact mem9) rfl ?_
              refine op_neS (nxogf rfl rfl rfl rfl rfl rfl (by kernel_rfl)) rfl rfl rfl ?_
              refine op_pickF (nxof rfl rfl rfl (by kernel_rfl)) rfl rfl rfl ?_
              refine op_move (nxof rfl rfl rfl (by kernel_rfl)) rfl rfl ?_
              refine At.partP (d := 131) rfl (fun g131 => ?_) (fun g131 => ?_)
              · exact absurd rfl g131
              · refine op_move (nxogf rfl rfl rfl rfl rfl rfl (by kernel_rfl)) rfl rfl ?_
                refine op_move (nxogf rfl rfl rfl rfl rfl rfl (by kernel_rfl)) rfl rfl ?_
                refine op_idxE (nxogf rfl rfl rfl rfl rfl rfl (by kernel_rfl)) se23 rfl rfl (by assumption) (show _ = (((k : Nat)) : Int) from by omega) (by omega) rfl ?_
                refine op_fieldAddrE (nxogf rfl rfl rfl rfl rfl rfl (by kernel_rfl)) fl25_0 rfl (by first | rfl | assumption) rfl ?_
                refine op_loadE (nxogf rfl rfl rfl rfl rfl rfl (by kernel_rfl)) sc4 rfl (by assumption) (by first | exact get8 (by omega) | exact get64 (by omega) | exact get32 (by omega) | exact cell0 hy hyl) (by first | exact mem0 | exact mem1 | exact mem2 | exact mem3 | exact mem4 | exact mem5 | exact mem6 | exact mem7 | exact mem8 | exact mem9) rfl ?_
                refine op_not (nxogf rfl rfl rfl rfl rfl rfl (by kernel_rfl)) rfl rfl ?_
                refine op_move (nxogf rfl rfl rfl rfl rfl rfl (by kernel_rfl)) rfl rfl ?_
                refine op_move (nxogf rfl rfl rfl rfl rfl rfl (by kernel_rfl)) rfl rfl ?_
                refine op_str (nxogf rfl rfl rfl rfl rfl rfl (by kernel_rfl)) Try.underlying22 Try.underlying5 Try.underlying9 rfl (by assumption) (by first | exact mem0 | exact mem1 | exact mem2 | exact mem3 | exact mem4 | exact mem5 | exact mem6 | exact mem7 | exact mem8 | exact mem9) rfl ?_
                refine op_move (nxogf rfl rfl rfl rfl rfl rfl (by kernel_rfl)) rfl rfl ?_
                refine op_move (nxogf rfl rfl rfl rfl rfl rfl (by kernel_rfl)) rfl rfl ?_
                refine op_idxE (nxogf rfl rfl rfl rfl rfl rfl (by kernel_rfl)) se23 rfl rfl (by assumption) (show _ = (((k : Nat)) : Int) from by omega) (by omega) rfl ?_
                refine op_fieldAddrE (nxogf rfl rfl rfl rfl rfl rfl (by kernel_rfl)) fl25_1 rfl (by first | rfl | assumption) rfl ?_
                refine op_loadE (nxogf rfl rfl rfl rfl rfl rfl (by kernel_rfl)) sc22 rfl (by assumption) (by first | exact get8 (by omega) | exact get64 (by omega) | exact get32 (by omega) | exact cell1 hy) (by first | exact mem0 | exact mem1 | exact mem2 | exact mem3 | exact mem4 | exact mem5 | exact mem6 | exact mem7 | exact mem8 | exact mem9) rfl ?_
                refine op_str (nxogf rfl rfl rfl rfl rfl rfl (by kernel_rfl)) Try.underlying22 Try.underlying5 Try.underlying9 rfl (by assumption) (by first | exact mem0 | exact mem1 | exact mem2 | exact mem3 | exact mem4 | exact mem5 | exact mem6 | exact mem7 | exact mem8 | exact mem9) rfl ?_
                refine op_neS (nxogf rfl rfl rfl rfl rfl rfl (by kernel_rfl)) rfl rfl rfl ?_
                refine op_pickT (nxogf rfl rfl rfl rfl rfl rfl (by kernel_rfl)) rfl rfl rfl ?_
                refine op_pickF (nxof rfl rfl rfl (by kernel_rfl)) rfl rfl rfl ?_
                refine At.oneNil ?_
                refine At.norm (hk_27 ?_)
                refine At.condP rfl (fun c149 => ?_) (fun c149 => ?_)
                · exact absurd rfl c149
                · refine At.skip ?_
                  refine At.norm (hk_26 ?_)
                  refine At.region ?_
                  refine op_move (nxlf rfl) rfl rfl ?_
                  refine op_move (nxlf rfl) rfl rfl ?_
                  refine op_lenS (nxlf rfl) se22 rfl rfl ?_
                  refine op_slice (nxlf rfl) se22 rfl (.some rfl (show _ = (((its[k].form.length : Nat)) : Int) from by omega)) .none .none (by omega) (by omega) (by omega) (by simp) rfl ?_
                  refine op_assign (nxlf rfl) rfl rfl ?_
                  refine At.opsNil ?_
                  refine At.inNorm ?_
                  refine At.norm (hk_23 ?_)
                  refine At.region ?_
                  refine op_move (nxlf rfl) rfl rfl ?_
                  refine op_addI (nxlf rfl) rfl rfl (by omega) (by omega) rfl ?_
                  refine op_assign (nxlf rfl) rfl rfl ?_
                  refine At.opsNil ?_
                  refine At.norm ?_
                  refine At.sub (L' := [J, Na, R]) (.cons _ (.cons _ (.cons _ (.cons _ (.cons_cons _ (.cons_cons _ (.cons_cons _ (.slnil)))))))) ?_
                  refine At.back ?_ (.refl _) ⟨k + 1, sadr ab its[k].form.length cb 1, nb - its[k].form.length, cb - its[k].form.length, rfl, rfl, rfl, by omega, by omega, s127⟩ ?_
                  · exact .cons (by first | exact lkI rfl (by omega) | rfl) (.cons (by first | exact lkI rfl (by omega) | rfl) (.cons (by first | exact lkI rfl (by omega) | rfl) .nil))
                  · omega
            · change At _ _ _ [M105, W105, N104, M98, J, Na, R] _
              have hyl : y.l = true := hyi.isl.trans hL
              refine op_move (nxlf rfl) rfl rfl ?_
              refine op_extract (nxlf rfl) rfl rfl rfl ?_
              refine op_extract (nxlf rfl) rfl rfl rfl ?_
              refine op_extract (nxlf rfl) rfl rfl rfl ?_
              refine op_extract (nxlf rfl) rfl rfl rfl ?_
              refine op_assign (nxlf rfl) rfl rfl ?_
              refine op_assign (nxlf rfl) rfl rfl ?_
              refine op_assign (nxlf rfl) rfl rfl ?_
              refine op_assign (nxlf rfl) rfl rfl ?_
              refine At.opsNil ?_
              refine At.norm (hk_25 ?_)
              refine At.seq fun K28 hk_28 => ?_
              refine At.seq fun K29 hk_29 => ?_
              refine At.drawn [] [0,1,2,3,4,5,6,7,8,9,10,11,12,13,14,15,16,17,18,19,20,21,22,23,24,25,26,27,28,29,30,31,32,33,34,35,36,37,38,39] (by kernel_rfl) (by kernel_rfl) ?_
              refine op_move (nxof rfl rfl rfl (by kernel_rfl)) rfl rfl ?_
              refine op_neq (nxof rfl rfl rfl (by kernel_rfl)) rfl rfl rfl ?_
              refine op_move (nxof rfl rfl rfl (by kernel_rfl)) rfl rfl ?_
              refine op_move (nxogf rfl rfl rfl rfl rfl rfl (by kernel_rfl)) rfl rfl ?_
              refine op_move (nxogf rfl rfl rfl rfl rfl rfl (by kernel_rfl)) rfl rfl ?_
              refine op_move (nxogf rfl rfl rfl rfl rfl rfl (by kernel_rfl)) rfl rfl ?_
              refine op_idxE (nxogf rfl rfl rfl rfl rfl rfl (by kernel_rfl)) se23 rfl rfl (by assumption) (show _ = (((k : Nat)) : Int) from by omega) (by omega) rfl ?_
              refine op_fieldAddrE (nxogf rfl rfl rfl rfl rfl rfl (by kernel_rfl)) fl25_0 rfl (by first | rfl | assumption) rfl ?_
              refine op_loadE (nxogf rfl rfl rfl rfl rfl rfl (by kernel_rfl)) sc4 rfl (by assumption) (by first | exact get8 (by omega) | exact get64 (by omega) | exact get32 (by omega) | exact cell0 hy hyl) (by first | exact mem0 | exact mem1 | exact mem2 | exact mem3 | exact mem4 | exact mem5 | exact mem6 | exact mem7 | exact mem8 | exact mem9) rfl ?_
              refine op_neB (nxogf rfl rfl rfl rfl rfl rfl (by kernel_rfl)) Try.underlying4 rfl rfl rfl ?_
              refine op_pickF (nxof rfl rfl rfl (by kernel_rfl)) rfl rfl rfl ?_
              refine op_move (nxof rfl rfl rfl (by kernel_rfl)) rfl rfl ?_
              refine op_move (nxogf rfl rfl rfl rfl rfl rfl (by kernel_rfl)) rfl rfl ?_
              refine op_str (nxogf rfl rfl rfl rfl rfl rfl (by kernel_rfl)) Try.underlying22 Try.underlying5 Try.underlying9 rfl (by assumption) (by first | exact mem0 | exact mem1 | exact mem2 | exact mem3 | exact mem4 | exact mem5 | exact mem6 | exact mem7 | exact mem8 | exact mem9) rfl ?_
              refine op_move (nxogf rfl rfl rfl rfl rfl rfl (by kernel_rfl)) rfl rfl ?_
              refine op_move (nxogf rfl rfl rfl rfl rfl rfl (by kernel_rfl)) rfl rfl ?_
              refine op_lenS (nxogf rfl rfl rfl rfl rfl rfl (by kernel_rfl)) se22 rfl rfl ?_
              refine op_slice (nxogf rfl rfl rfl rfl rfl rfl (by kernel_rfl)) se22 rfl (.some rfl (show _ = (((its[k].form.length : Nat)) : Int) from by omega)) .none .none (by omega) (by omega) (by omega) (by simp) rfl ?_
              have s127 : RSl Na 1 (sadr ab its[k].form.length cb 1) (nb - its[k].form.length) (cb - its[k].form.length) (u8s (It.forms (its.drop (k + 1)))) := by
                have e := sb.drop8 (lo := its[k].form.length) (by omega)
                rwa [hfd, List.drop_append_of_le_length (Nat.le_refl _), List.drop_length, List.nil_append] at e
              refine op_str (nxogf rfl rfl rfl rfl rfl rfl (by kernel_rfl)) Try.underlying22 Try.underlying5 Try.underlying9 rfl (by assumption) (by first | exact mem0 | exact mem1 | exact mem2 | exact mem3 | exact mem4 | exact mem5 | exact mem6 | exact mem7 | exact mem8 | exact mem9) rfl ?_
              refine op_neS (nxogf rfl rfl rfl rfl rfl rfl (by kernel_rfl)) rfl rfl rfl ?_
              refine op_pickF (nxof rfl rfl rfl (by kernel_rfl)) rfl rfl rfl ?_
              refine op_move (nxof rfl rfl rfl (by kernel_rfl)) rfl rfl ?_
              refine At.partP (d := 131) rfl (fun g131 => ?_) (fun g131 => ?_)
              · exact absurd rfl g131
              · refine op_move (nxogf rfl rfl rfl rfl rfl rfl (by kernel_rfl)) rfl rfl ?_
                refine op_move (nxogf rfl rfl rfl rfl rfl rfl (by kernel_rfl)) rfl rfl ?_
                refine op_idxE (nxogf rfl rfl rfl rfl rfl rfl (by kernel_rfl)) se23 rfl rfl (by assumption) (show _ = (((k : Nat)) : Int) from by omega) (by omega) rfl ?_
                refine op_fieldAddrE (nxogf rfl rfl rfl rfl rfl rfl (by kernel_rfl)) fl25_0 rfl (by first | rfl | assumption) rfl ?_
                refine op_loadE (nxogf rfl rfl rfl rfl rfl rfl (by kernel_rfl)) sc4 rfl (by assumption) (by first | exact get8 (by omega) | exact get64 (by omega) | exact get32 (by omega) | exact cell0 hy hyl) (by first | exact mem0 | exact mem1 | exact mem2 | exact mem3 | exact mem4 | exact mem5 | exact mem6 | exact mem7 | exact mem8 | exact mem9) rfl ?_
                refine op_not (nxogf rfl rfl rfl rfl rfl rfl (by kernel_rfl)) rfl rfl ?_
                refine op_move (nxogf rfl rfl rfl rfl rfl rfl (by kernel_rfl)) rfl rfl ?_
                refine op_oskip rfl rfl rfl rfl rfl rfl rfl rfl ?_
                refine op_oskip rfl rfl rfl rfl rfl rfl rfl rfl ?_
                refine op_oskip rfl rfl rfl rfl rfl rfl rfl rfl ?_
                refine op_oskip rfl rfl rfl rfl rfl rfl rfl rfl ?_
                refine op_oskip rfl rfl rfl rfl rfl rfl rfl rfl ?_
                refine op_oskip rfl rfl rfl rfl rfl rfl rfl rfl ?_
                refine op_oskip rfl rfl rfl rfl rfl rfl rfl rfl ?_
                refine op_oskip rfl rfl rfl rfl rfl rfl rfl rfl ?_
                refine op_oskip rfl rfl rfl rfl rfl rfl rfl rfl ?_
                refine op_pickF (nxogf rfl rfl rfl rfl rfl rfl (by kernel_rfl)) rfl rfl rfl ?_
                refine op_pickF (nxof rfl rfl rfl (by kernel_rfl)) rfl rfl rfl ?_
                refine At.oneNil ?_
                refine At.norm (hk_29 ?_)
                refine At.condF rfl ?_
                refine At.skip ?_
                refine At.norm (hk_28 ?_)
                refine At.region ?_
                refine op_move (nxlf rfl) rfl rfl ?_
                refine op_move (nxlf rfl) rfl rfl ?_
                refine op_lenS (nxlf rfl) se22 rfl rfl ?_
                refine op_slice (nxlf rfl) se22 rfl (.some rfl (show _ = (((its[k].form.length : Nat)) : Int) from by omega)) .none .none (by omega) (by omega) (by omega) (by simp) rfl ?_
                refine op_assign (nxlf rfl) rfl rfl ?_
                refine At.opsNil ?_
                refine At.inNorm ?_
                refine At.norm (hk_23 ?_)
                refine At.region ?_
                refine op_move (nxlf rfl) rfl rfl ?_
                refine op_addI (nxlf rfl) rfl rfl (by omega) (by omega) rfl ?_
                refine op_assign (nxlf rfl) rfl rfl ?_
                refine At.opsNil ?_
                refine At.norm ?_
                refine At.sub (L' := [J, Na, R]) (.cons _ (.cons _ (.cons _ (.cons _ (.cons_cons _ (.cons_cons _ (.cons_cons _ (.slnil)))))))) ?_
                refine At.back ?_ (.refl _) ⟨k + 1, sadr ab its[k].form.length cb 1, nb - its[k].form.length, cb - its[k].form.length, rfl, rfl, rfl, by omega, by omega, s127⟩ ?_
                · exact .cons (by first | exact lkI rfl (by omega) | rfl) (.cons (by first | exact lkI rfl (by omega) | rfl) (.cons (by first | exact lkI rfl (by omega) | rfl) .nil))
                · omega
          · refine At.exit (At.thenExit (At.thenExit (At.inHit ?_)))
            refine At.norm (hk_19 ?_)
            refine At.seq fun K30 hk_30 => ?_
            refine At.region ?_
            have hb0 : nb = 0 := by
              rw [List.drop_eq_nil_of_le (by omega)] at hnb
              exact hnb.symm
            refine op_move (nxlf rfl) rfl rfl ?_
            refine op_lenS (nxlf rfl) se22 rfl rfl ?_
            refine op_eql (nxlf rfl) rfl rfl rfl ?_
            refine op_move (nxlf rfl) rfl rfl ?_
            refine At.partP (d := 157) rfl (fun g157 => ?_) (fun g157 => ?_)
            · refine op_callA (nxga rfl rfl rfl rfl) .nil (wakes_f) Try.func15 rfl rfl (by simp) rfl ?_
              rintro v158 L158 ⟨rfl, rfl⟩
              change At _ _ _ [J, Na, R] _
              refine op_pickT (nxlf rfl) rfl rfl rfl ?_
              refine op_assign (nxlf rfl) rfl rfl ?_
              refine At.opsNil ?_
              refine At.norm (hk_30 ?_)
              refine At.ret (?_)
              refine At.sub (L' := [R]) (.cons _ (.cons _ (.cons_cons _ (.slnil)))) ?_
              refine At.ret1 (L1 := []) rfl (.tmp rfl .nil) (.refl _) (.refl _) ?_
              exact ⟨rfl, rfl⟩
            · exfalso; omega
  · refine op_skip rfl rfl rfl rfl rfl rfl rfl ?_
    refine op_skip rfl rfl rfl rfl rfl rfl rfl ?_
    refine op_pickF (nxlf rfl) rfl rfl rfl ?_
    refine At.opsNil ?_
    refine At.norm (hk_7 ?_)
    refine At.condF rfl ?_
    refine At.exit (At.thenExit (At.thenExit (At.inHit ?_)))
    refine At.norm (hk_4 ?_)
    refine At.seq fun K31 hk_31 => ?_
    refine At.region ?_
    refine op_move (nxlf rfl) rfl rfl ?_
    refine op_build (out := [_, .slice none 0 0, _]) (nxlf rfl) ze25 pl25 (.cons rfl (.cons rfl .nil)) rfl rfl ?_
    refine At.mergeN (fun J J1 J2 => ?_)
    obtain ⟨wt, hIt, hwl, hwd, hcw⟩ : ∃ wt : It, ItN J wt ⟨true, none, 0, 0, al, nl, cl⟩ ∧ wt.form.length ≤ 3000009 ∧ wt.depth ≤ 1024 ∧ cutF wt.form = some (true, It.forms its, []) := by
      have h9 := rlpHead_le 192 (It.forms its).length (Nat.lt_of_le_of_lt hfl (by decide))
      have hwl : (It.mk true [] its).form.length ≤ 3000009 := by
        rw [form_true, List.length_append]
        exact Nat.le_trans (Nat.add_le_add h9 hfl) (by decide)
      refine ⟨.mk true [] its, ItN.mk (RSl.nil _ _) (sr.le J1) (hs.le J2), hwl, by rw [It.depth]; exact Nat.le_trans (Nat.succ_le_succ hdd) (by decide), ?_⟩
      have e := cut_list (bs := []) (its := its) (rest := []) (Nat.lt_of_le_of_lt hwl (by decide))
      rwa [List.append_nil] at e
    have hnits := hs.length
    refine op_callA (nxla rfl) (.cons rfl .nil) (Encode_ok (t := wt) (x := ⟨true, none, 0, 0, al, nl, cl⟩) (N := J) hIt (Nat.le_trans hwl (by decide)) hwd) Try.func13 rfl rfl (by simp) rfl ?_
    rintro v55 L55 ⟨M55, a55, p55, rfl, rfl, r55⟩
    change At _ _ _ [M55, J, Na, R] _
    have s55 := r55.rsl
    refine op_move (nxlf rfl) rfl rfl ?_
    refine op_extract (nxlf rfl) rfl rfl rfl ?_
    refine op_extract (nxlf rfl) rfl rfl rfl ?_
    refine op_assign (nxlf rfl) rfl rfl ?_
    refine op_assign (nxlf rfl) rfl rfl ?_
    refine At.opsNil ?_
    refine At.norm (hk_31 ?_)
    refine At.seq fun K32 hk_32 => ?_
    refine At.region ?_
    refine op_move (nxlf rfl) rfl rfl ?_
    refine op_callA (nxla rfl) (.cons rfl .nil) (Split_list s55 (by omega) hcw) Try.func23 rfl rfl (by simp) rfl ?_
    rintro v60 L60 ⟨M60, W60, a60, c60, d60, e60, rfl, rfl, r60, t60⟩
    change At _ _ _ [M60, W60, M55, J, Na, R] _
    have s60 := r60.rsl
    refine op_move (nxlf rfl) rfl rfl ?_
    refine op_extract (nxlf rfl) rfl rfl rfl ?_
    refine op_extract (nxlf rfl) rfl rfl rfl ?_
    refine op_extract (nxlf rfl) rfl rfl rfl ?_
    refine op_extract (nxlf rfl) rfl rfl rfl ?_
    refine op_assign (nxlf rfl) rfl rfl ?_
    refine op_assign (nxlf rfl) rfl rfl ?_
    refine op_assign (nxlf rfl) rfl rfl ?_
    refine op_assign (nxlf rfl) rfl rfl ?_
    refine At.opsNil ?_
    refine At.norm (hk_32 ?_)
    refine At.seq fun K33 hk_33 => ?_
    refine At.seq fun K34 hk_34 => ?_
    refine At.region ?_
    refine op_move (nxlf rfl) rfl rfl ?_
    refine op_neq (nxlf rfl) rfl rfl rfl ?_
    refine op_move (nxlf rfl) rfl rfl ?_
    refine op_move (nxgf rfl rfl rfl rfl) rfl rfl ?_
    refine op_neq (nxgf rfl rfl rfl rfl) rfl rfl rfl ?_
    refine op_pickF (nxlf rfl) rfl rfl rfl ?_
    refine op_move (nxlf rfl) rfl rfl ?_
    refine op_move (nxgf rfl rfl rfl rfl) rfl rfl ?_
    refine op_not (nxgf rfl rfl rfl rfl) rfl rfl ?_
    refine op_pickF (nxlf rfl) rfl rfl rfl ?_
    refine op_move (nxlf rfl) rfl rfl ?_
    refine op_move (nxgf rfl rfl rfl rfl) rfl rfl ?_
    refine op_str (nxgf rfl rfl rfl rfl) Try.underlying22 Try.underlying5 Try.underlying9 rfl (by assumption) (by first | exact mem0 | exact mem1 | exact mem2 | exact mem3 | exact mem4 | exact mem5 | exact mem6 | exact mem7 | exact mem8 | exact mem9) rfl ?_
    refine op_move (nxgf rfl rfl rfl rfl) rfl rfl ?_
    refine op_str (nxgf rfl rfl rfl rfl) Try.underlying22 Try.underlying5 Try.underlying9 rfl (by assumption) (by first | exact mem0 | exact mem1 | exact mem2 | exact mem3 | exact mem4 | exact mem5 | exact mem6 | exact mem7 | exact mem8 | exact mem9) rfl ?_
    refine op_neS (nxgf rfl rfl rfl rfl) rfl rfl rfl ?_
    refine op_pickF (nxlf rfl) rfl rfl rfl ?_
    refine op_move (nxlf rfl) rfl rfl ?_
    refine At.partP (d := 82) rfl (fun g82 => ?_) (fun g82 => ?_)
    · exact absurd rfl g82
    · refine op_move (nxgf rfl rfl rfl rfl) rfl rfl ?_
      refine op_lenS (nxgf rfl rfl rfl rfl) se22 rfl rfl ?_
      refine op_neq (nxgf rfl rfl rfl rfl) rfl rfl rfl ?_
      refine op_pickF (nxlf rfl) rfl rfl rfl ?_
      refine At.opsNil ?_
      refine At.norm (hk_34 ?_)
      refine At.condP rfl (fun c86 => ?_) (fun c86 => ?_)
      · simp at c86
      · refine At.skip ?_
        refine At.norm (hk_33 ?_)
        refine At.seq fun K35 hk_35 => ?_
        refine At.seq fun K36 hk_36 => ?_
        refine At.region ?_
        refine op_assign (nxlf rfl) rfl rfl ?_
        refine At.opsNil ?_
        refine At.norm (hk_36 ?_)
        refine At.block ?_
        refine At.sub (L' := [J, Na, R]) (.cons _ (.cons _ (.cons _ (.cons_cons _ (.cons_cons _ (.cons_cons _ (.slnil))))))) ?_
        refine At.loop (fun fr_ hp_ ms_ => ∃ (k : Nat) (ab : Option Addr) (nb cb : Nat), fr_ = [(3, .slice ab nb cb), (4, .slice al nl cl), (16, .int .i64 (k : Int))] ∧ hp_ = [J, Na, R] ∧ nl - k = ms_ ∧ (k ≤ nl) ∧ (nb ≤ 3000000) ∧ (RSl Na 1 ab nb cb (u8s (It.forms (its.drop k))))) ?_ (.refl _) ⟨0, aa, na, ca, rfl, rfl, rfl, by omega, by omega, sa⟩ ?_
        · exact .cons (by first | exact lkI rfl (by omega) | rfl) (.cons (by first | exact lkI rfl (by omega) | rfl) (.cons (by first | exact lkI rfl (by omega) | rfl) .nil))
        rintro _ _ _ ⟨k, ab, nb, cb, rfl, rfl, rfl, hk, hb3, sb⟩
        have hnb := sb.len8
        have hcb := sb.cap63
        have sj := sr.le J1
        have hj := hs.le J2
        refine At.seq fun K37 hk_37 => ?_
        refine At.seq fun K38 hk_38 => ?_
        refine At.region ?_
        refine op_move (nxlf rfl) rfl rfl ?_
        refine op_move (nxlf rfl) rfl rfl ?_
        refine op_lenS (nxlf rfl) se23 rfl rfl ?_
        refine op_lss (nxlf rfl) rfl rfl rfl ?_
        refine At.opsNil ?_
        refine At.norm (hk_38 ?_)
        refine At.condP rfl (fun c90 => ?_) (fun c90 => ?_)
        · have klt : k < its.length := by omega
          obtain ⟨y, hy, hyi⟩ := hj.get (List.getElem?_eq_getElem klt)
          have hfd := forms_drop (List.getElem?_eq_getElem klt)
          have hnf : its[k].form.length + (It.forms (its.drop (k + 1))).length = nb := by rw [← hnb, hfd, List.length_append]
          have hal := sj.isSome (by omega)
          have hdk : its[k].depth ≤ 21 := depths_le.1 hdd _ (List.getElem_mem klt)
          refine At.skip ?_
          refine At.norm (hk_37 ?_)
          refine At.seq fun K39 hk_39 => ?_
          refine At.block ?_
          refine At.seq fun K40 hk_40 => ?_
          refine At.region ?_
          refine op_move (nxlf rfl) rfl rfl ?_
          refine op_move (nxlf rfl) rfl rfl ?_
          refine op_idxE (nxlf rfl) se23 rfl rfl (by assumption) (show _ = (((k : Nat)) : Int) from by omega) (by omega) rfl ?_
          refine op_loadAggE (nxlf rfl) ag25 rfl (by assumption) (by exact cells_at hy) (by rfl) (by omega) (by first | exact mem0 | exact mem1 | exact mem2 | exact mem3 | exact mem4 | exact mem5 | exact mem6 | exact mem7 | exact mem8 | exact mem9) rfl ?_
          refine op_callA (nxla rfl) (.cons rfl .nil) (Encode_ok hyi (by omega) (by omega)) Try.func13 rfl rfl (by simp) rfl ?_
          rintro v98 L98 ⟨M98, a98, p98, rfl, rfl, r98⟩
          change At _ _ _ [M98, J, Na, R] _
          refine op_move (nxlf rfl) rfl rfl ?_
          refine op_extract (nxlf rfl) rfl rfl rfl ?_
          refine op_extract (nxlf rfl) rfl rfl rfl ?_
          refine op_assign (nxlf rfl) rfl rfl ?_
          refine op_assign (nxlf rfl) rfl rfl ?_
          refine At.opsNil ?_
          refine At.norm (hk_40 ?_)
          refine At.seq fun K41 hk_41 => ?_
          refine At.region ?_
          refine op_lit (nxla rfl) Try.underlying22 ze5 sz5 .nil rfl rfl (by simp [Value.cells]) rfl rfl rfl (fun N102 a102 r102 => ?_)
          simp only [flatV, List.flatMap_cons, List.flatMap_nil, Value.cells, List.append_nil, List.cons_append, List.nil_append] at r102
          have s102 := r102.rsl
          refine op_move (nxlf rfl) rfl rfl ?_
          refine op_append (nxl rfl) Try.underlying22 Try.underlying22 te5 rfl rfl r102 (by assumption) (by first | exact mem0 | exact mem1 | exact mem2 | exact mem3 | exact mem4 | exact mem5 | exact mem6 | exact mem7 | exact mem8 | exact mem9) (by first | exact one_u8s _ | exact one_u64s _ | exact one_u32s _ | (intro u hu; simp at hu; subst hu; rfl)) (by omega) (by omega) sel0 rfl (fun N104 a104 p104 r104 => ?_)
          have s104 := r104.rsl
          have s105 : RSl N104 1 a104 (0 + nb) p104 (u8s (its[k].form ++ It.forms (its.drop (k + 1)))) := by rw [← hfd]; exact s104
          refine op_callA (nxla rfl) (.cons rfl .nil) (Split_form s105 (by omega)) Try.func23 rfl rfl (by simp) rfl ?_
          rintro v105 L105 (⟨M105, W105, a105, c105, d105, e105, hL, rfl, rfl, s106, s107⟩ | ⟨M105, W105, a105, c105, d105, e105, hL, rfl, rfl, s106, s107⟩)
          · change At _ _ _ [M105, W105, N104, M98, J, Na, R] _
            have hyl : y.l = false := hyi.isl.trans hL; have hyt := hyi.txt hL
            refine op_move (nxlf rfl) rfl rfl ?_
            refine op_extract (nxlf rfl) rfl rfl rfl ?_
            refine op_extract (nxlf rfl) rfl rfl rfl ?_
            refine op_extract (nxlf rfl) rfl rfl rfl ?_
            refine op_extract (nxlf rfl) rfl rfl rfl ?_
            refine op_assign (nxlf rfl) rfl rfl ?_
            refine op_assign (nxlf rfl) rfl rfl ?_
            refine op_assign (nxlf rfl) rfl rfl ?_
            refine op_assign (nxlf rfl) rfl rfl ?_
            refine At.opsNil ?_
            refine At.norm (hk_41 ?_)
            refine At.seq fun K42 hk_42 => ?_
            refine At.seq fun K43 hk_43 => ?_
            refine At.drawn [] [0,1,2,3,4,5,6,7,8,9,10,11,12,13,14,15,16,17,18,19,20,21,22,23,24,25,26,27,28,29,30,31,32,33,34,35,36,37,38,39] (by kernel_rfl) (by kernel_rfl) ?_
            refine op_move (nxof rfl rfl rfl (by kernel_rfl)) rfl rfl ?_
            refine op_neq (nxof rfl rfl rfl (by kernel_rfl)) rfl rfl rfl ?_
            refine op_move (nxof rfl rfl rfl (by kernel_rfl)) rfl rfl ?_
            refine op_move (nxogf rfl rfl rfl rfl rfl rfl (by kernel_rfl)) rfl rfl ?_
            refine op_move (nxogf rfl rfl rfl rfl rfl rfl (by kernel_rfl)) rfl rfl ?_
            refine op_move (nxogf rfl rfl rfl rfl rfl rfl (by kernel_rfl)) rfl rfl ?_
            refine op_idxE (nxogf rfl rfl rfl rfl rfl rfl (by kernel_rfl)) se23 rfl rfl (by assumption) (show _ = (((k : Nat)) : Int) from by omega) (by omega) rfl ?_
            refine op_fieldAddrE (nxogf rfl rfl rfl rfl rfl rfl (by kernel_rfl)) fl25_0 rfl (by first | rfl | assumption) rfl ?_
            refine op_loadE (nxogf rfl rfl rfl rfl rfl rfl (by kernel_rfl)) sc4 rfl (by assumption) (by first | exact get8 (by omega) | exact get64 (by omega) | exact get32 (by omega) | exact cell0 hy hyl) (by first | exact mem0 | exact mem1 | exact mem2 | exact mem3 | exact mem4 | exact mem5 | exact mem6 | exact mem7 | exact mem8 | exact mem9) rfl ?_
            refine op_neB (nxogf rfl rfl rfl rfl rfl rfl (by kernel_rfl)) Try.underlying4 rfl rfl rfl ?_
            refine op_pickF (nxof rfl rfl rfl (by kernel_rfl)) rfl rfl rfl ?_
            refine op_move (nxof rfl rfl rfl (by kernel_rfl)) rfl rfl ?_
            refine op_move (nxogf rfl rfl rfl rfl rfl rfl (by kernel_rfl)) rfl rfl ?_
            refine op_str (nxogf rfl rfl rfl rfl rfl rfl (by kernel_rfl)) Try.underlying22 Try.underlying5 Try.underlying9 rfl (by assumption) (by first | exact mem0 | exact mem1 | exact mem2 | exact mem3 | exact mem4 | exact mem5 | exact mem6 | exact mem7 | exact mem8 | exact mem9) rfl ?_
            refine op_move (nxogf rfl rfl rfl rfl rfl rfl (by kernel_rfl)) rfl rfl ?_
            refine op_move (nxogf rfl rfl rfl rfl rfl rfl (by kernel_rfl)) rfl rfl ?_
            refine op_lenS (nxogf rfl rfl rfl rfl rfl rfl (by kernel_rfl)) se22 rfl rfl ?_
            refine op_slice (nxogf rfl rfl rfl rfl rfl rfl (by kernel_rfl)) se22 rfl (.some rfl (show _ = (((its[k].form.length : Nat)) : Int) from by omega)) .none .none (by omega) (by omega) (by omega) (by simp) rfl ?_
            have s127 : RSl Na 1 (sadr ab its[k].form.length cb 1) (nb - its[k].form.length) (cb - its[k].form.length) (u8s (It.forms (its.drop (k + 1)))) := by
              have e := sb.drop8 (lo := its[k].form.length) (by omega)
              rwa [hfd, List.drop_append_of_le_length (Nat.le_refl _), List.drop_length, List.nil_append] at e
            refine op_str (nxogf rfl rfl rfl rfl rfl rfl (by kernel_rfl)) Try.underlying22 Try.underlying5 Try.underlying9 rfl (by assumption) (by first | exact mem0 | exact mem1 | exact mem2 | exact mem3 | exact mem4 | exact mem5 | exact mem6 | exact mem7 | exact mem8 | exact mem9) rfl ?_
            refine op_neS (nxogf rfl rfl rfl rfl rfl rfl (by kernel_rfl)) rfl rfl rfl ?_
            refine op_pickF (nxof rfl rfl rfl (by kernel_rfl)) rfl rfl rfl ?_
            refine op_move (nxof rfl rfl rfl (by kernel_rfl)) rfl rfl ?_
            refine At.partP (d := 131) rfl (fun g131 => ?_) (fun g131 => ?_)
            · exact absurd rfl g131
            · refine op_move (nxogf rfl rfl rfl rfl rfl rfl (by kernel_rfl)) rfl rfl ?_
              refine op_move (nxogf rfl rfl rfl rfl rfl rfl (by kernel_rfl)) rfl rfl ?_
              refine op_idxE (nxogf rfl rfl rfl rfl rfl rfl (by kernel_rfl)) se23 rfl rfl (by assumption) (show _ = (((k : Nat)) : Int) from by omega) (by omega) rfl ?_
              refine op_fieldAddrE (nxogf rfl rfl rfl rfl rfl rfl (by kernel_rfl)) fl25_0 rfl (by first | rfl | assumption) rfl ?_
              refine op_loadE (nxogf rfl rfl rfl rfl rfl rfl (by kernel_rfl)) sc4 rfl (by assumption) (by first | exact get8 (by omega) | exact get64 (by omega) | exact get32 (by omega) | exact cell0 hy hyl) (by first | exact mem0 | exact mem1 | exact mem2 | exact mem3 | exact mem4 | exact mem5 | exact mem6 | exact mem7 | exact mem8 | exact mem9) rfl ?_
              refine op_not (nxogf rfl rfl rfl rfl rfl rfl (by kernel_rfl)) rfl rfl ?_
              refine op_move (nxogf rfl rfl rfl rfl rfl rfl (by kernel_rfl)) rfl rfl ?_
              refine op_move (nxogf rfl rfl rfl rfl rfl rfl (by kernel_rfl)) rfl rfl ?_
              refine op_str (nxogf rfl rfl rfl rfl rfl rfl (by kernel_rfl)) Try.underlying22 Try.underlying5 Try.underlying9 rfl (by assumption) (by first | exact mem0 | exact mem1 | exact mem2 | exact mem3 | exact mem4 | exact mem5 | exact mem6 | exact mem7 | exact mem8 | exact mem9) rfl ?_
              refine op_move (nxogf rfl rfl rfl rfl rfl rfl (by kernel_rfl)) rfl rfl ?_
              refine op_move (nxogf rfl rfl rfl rfl rfl rfl (by kernel_rfl)) rfl rfl ?_
              refine op_idxE (nxogf rfl rfl rfl rfl rfl rfl (by kernel_rfl)) se23 rfl rfl (by assumption) (show _ = (((k : Nat)) : Int) from by omega) (by omega) rfl ?_
              refine op_fieldAddrE (nxogf rfl rfl rfl rfl rfl rfl (by kernel_rfl)) fl25_1 rfl (by first | rfl | assumption) rfl ?_
              refine op_loadE (nxogf rfl rfl rfl rfl rfl rfl (by kernel_rfl)) sc22 rfl (by assumption) (by first | exact get8 (by omega) | exact get64 (by omega) | exact get32 (by omega) | exact cell1 hy) (by first | exact mem0 | exact mem1 | exact mem2 | exact mem3 | exact mem4 | exact mem5 | exact mem6 | exact mem7 | exact mem8 | exact mem9) rfl ?_
              refine op_str (nxogf rfl rfl rfl rfl rfl rfl (by kernel_rfl)) Try.underlying22 Try.underlying5 Try.underlying9 rfl (by assumption) (by first | exact mem0 | exact mem1 | exact mem2 | exact mem3 | exact mem4 | exact mem5 | exact mem6 | exact mem7 | exact mem8 | exact mem9) rfl ?_
              refine op_neS (nxogf rfl rfl rfl rfl rfl rfl (by kernel_rfl)) rfl rfl rfl ?_
              refine op_pickT (nxogf rfl rfl rfl rfl rfl rfl (by kernel_rfl)) rfl rfl rfl ?_
              refine op_pickF (nxof rfl rfl rfl (by kernel_rfl)) rfl rfl rfl ?_
              refine At.oneNil ?_
              refine At.norm (hk_43 ?_)
              refine At.condP rfl (fun c149 => ?_) (fun c149 => ?_)
              · exact absurd rfl c149
              · refine At.skip ?_
                refine At.norm (hk_42 ?_)
                refine At.region ?_
                refine op_move (nxlf rfl) rfl rfl ?_
                refine op_move (nxlf rfl) rfl rfl ?_
                refine op_lenS (nxlf rfl) se22 rfl rfl ?_
                refine op_slice (nxlf rfl) se22 rfl (.some rfl (show _ = (((its[k].form.length : Nat)) : Int) from by omega)) .none .none (by omega) (by omega) (by omega) (by simp) rfl ?_
                refine op_assign (nxlf rfl) rfl rfl ?_
                refine At.opsNil ?_
                refine At.inNorm ?_
                refine At.norm (hk_39 ?_)
                refine At.region ?_
                refine op_move (nxlf rfl) rfl rfl ?_
                refine op_addI (nxlf rfl) rfl rfl (by omega) (by omega) rfl ?_
                refine op_assign (nxlf rfl) rfl rfl ?_
                refine At.opsNil ?_
                refine At.norm ?_
                refine At.sub (L' := [J, Na, R]) (.cons _ (.cons _ (.cons _ (.cons _ (.cons_cons _ (.cons_cons _ (.cons_cons _ (.slnil)))))))) ?_
                refine At.back ?_ (.refl _) ⟨k + 1, sadr ab its[k].form.length cb 1, nb - its[k].form.length, cb - its[k].form.length, rfl, rfl, rfl, by omega, by omega, s127⟩ ?_
                · exact .cons (by first | exact lkI rfl (by omega) | rfl) (.cons (by first | exact lkI rfl (by omega) | rfl) (.cons (by first | exact lkI rfl (by omega) | rfl) .nil))
                · omega
          · change At _ _ _ [M105, W105, N104, M98, J, Na, R] _
            have hyl : y.l = true := hyi.isl.trans hL
            refine op_move (nxlf rfl) rfl rfl ?_
            refine op_extract (nxlf rfl) rfl rfl rfl ?_
            refine op_extract (nxlf rfl) rfl rfl rfl ?_
            refine op_extract (nxlf rfl) rfl rfl rfl ?_
            refine op_extract (nxlf rfl) rfl rfl rfl ?_
            refine op_assign (nxlf rfl) rfl rfl ?_
            refine op_assign (nxlf rfl) rfl rfl ?_
            refine op_assign (nxlf rfl) rfl rfl ?_
            refine op_assign (nxlf rfl) rfl rfl ?_
            refine At.opsNil ?_
            refine At.norm (hk_41 ?_)
            refine At.seq fun K44 hk_44 => ?_
            refine At.seq fun K45 hk_45 => ?_
            refine At.drawn [] [0,1,2,3,4,5,6,7,8,9,10,11,12,13,14,15,16,17,18,19,20,21,22,23,24,25,26,27,28,29,30,31,32,33,34,35,36,37,38,39] (by kernel_rfl) (by kernel_rfl) ?_
            refine op_move (nxof rfl rfl rfl (by kernel_rfl)) rfl rfl ?_
            refine op_neq (nxof rfl rfl rfl (by kernel_rfl)) rfl rfl rfl ?_
            refine op_move (nxof rfl rfl rfl (by kernel_rfl)) rfl rfl ?_
            refine op_move (nxogf rfl rfl rfl rfl rfl rfl (by kernel_rfl)) rfl rfl ?_
            refine op_move (nxogf rfl rfl rfl rfl rfl rfl (by kernel_rfl)) rfl rfl ?_
            refine op_move (nxogf rfl rfl rfl rfl rfl rfl (by kernel_rfl)) rfl rfl ?_
            refine op_idxE (nxogf rfl rfl rfl rfl rfl rfl (by kernel_rfl)) se23 rfl rfl (by assumption) (show _ = (((k : Nat)) : Int) from by omega) (by omega) rfl ?_
            refine op_fieldAddrE (nxogf rfl rfl rfl rfl rfl rfl (by kernel_rfl)) fl25_0 rfl (by first | rfl | assumption) rfl ?_
            refine op_loadE (nxogf rfl rfl rfl rfl rfl rfl (by kernel_rfl)) sc4 rfl (by assumption) (by first | exact get8 (by omega) | exact get64 (by omega) | exact get32 (by omega) | exact cell0 hy hyl) (by first | exact mem0 | exact mem1 | exact mem2 | exact mem3 | exact mem4 | exact mem5 | exact mem6 | exact mem7 | exact mem8 | exact mem9) rfl ?_
            refine op_neB (nxogf rfl rfl rfl rfl rfl rfl (by kernel_rfl)) Try.underlying4 rfl rfl rfl ?_
            refine op_pickF (nxof rfl rfl rfl (by kernel_rfl)) rfl rfl rfl ?_
            refine op_move (nxof rfl rfl rfl (by kernel_rfl)) rfl rfl ?_
            refine op_move (nxogf rfl rfl rfl rfl rfl rfl (by kernel_rfl)) rfl rfl ?_
            refine op_str (nxogf rfl rfl rfl rfl rfl rfl (by kernel_rfl)) Try.underlying22 Try.underlying5 Try.underlying9 rfl (by assumption) (by first | exact mem0 | exact mem1 | exact mem2 | exact mem3 | exact mem4 | exact mem5 | exact mem6 | exact mem7 | exact mem8 | exact mem9) rfl ?_
            refine op_move (nxogf rfl rfl rfl rfl rfl rfl (by kernel_rfl)) rfl rfl ?_
            refine op_move (nxogf rfl rfl rfl rfl rfl rfl (by kernel_rfl)) rfl rfl ?_
            refine op_lenS (nxogf rfl rfl rfl rfl rfl rfl (by kernel_rfl)) se22 rfl rfl ?_
            refine op_slice (nxogf rfl rfl rfl rfl rfl rfl (by kernel_rfl)) se22 rfl (.some rfl (show _ = (((its[k].form.length : Nat)) : Int) from by omega)) .none .none (by omega) (by omega) (by omega) (by simp) rfl ?_
            have s127 : RSl Na 1 (sadr ab its[k].form.length cb 1) (nb - its[k].form.length) (cb - its[k].form.length) (u8s (It.forms (its.drop (k + 1)))) := by
              have e := sb.drop8 (lo := its[k].form.length) (by omega)
              rwa [hfd, List.drop_append_of_le_length (Nat.le_refl _), List.drop_length, List.nil_append] at e
            refine op_str (nxogf rfl rfl rfl rfl rfl rfl (by kernel_rfl)) Try.underlying22 Try.underlying5 Try.underlying9 rfl (by assumption) (by first | exact mem0 | exact mem1 | exact mem2 | exact mem3 | exact mem4 | exact mem5 | exact mem6 | exact mem7 | exact mem8 | exact mem9) rfl ?_
            refine op_neS (nxogf rfl rfl rfl rfl rfl rfl (by kernel_rfl)) rfl rfl rfl ?_
            refine op_pickF (nxof rfl rfl rfl (by kernel_rfl)) rfl rfl rfl ?_
            refine op_move (nxof rfl rfl rfl (by kernel_rfl)) rfl rfl ?_
            refine At.partP (d := 131) rfl (fun g131 => ?_) (fun g131 => ?_)
            · exact absurd rfl g131
            · refine op_move (nxogf rfl rfl rfl rfl rfl rfl (by kernel_rfl)) rfl rfl ?_
              refine op_move (nxogf rfl rfl rfl rfl rfl rfl (by kernel_rfl)) rfl rfl ?_
              refine op_idxE (nxogf rfl rfl rfl rfl rfl rfl (by kernel_rfl)) se23 rfl rfl (by assumption) (show _ = (((k : Nat)) : Int) from by omega) (by omega) rfl ?_
              refine op_fieldAddrE (nxogf rfl rfl rfl rfl rfl rfl (by kernel_rfl)) fl25_0 rfl (by first | rfl | assumption) rfl ?_
              refine op_loadE (nxogf rfl rfl rfl rfl rfl rfl (by kernel_rfl)) sc4 rfl (by assumption) (by first | exact get8 (by omega) | exact get64 (by omega) | exact get32 (by omega) | exact cell0 hy hyl) (by first | exact mem0 | exact mem1 | exact mem2 | exact mem3 | exact mem4 | exact mem5 | exact mem6 | exact mem7 | exact mem8 | exact mem9) rfl ?_
              refine op_not (nxogf rfl rfl rfl rfl rfl rfl (by kernel_rfl)) rfl rfl ?_
              refine op_move (nxogf rfl rfl rfl rfl rfl rfl (by kernel_rfl)) rfl rfl ?_
              refine op_oskip rfl rfl rfl rfl rfl rfl rfl rfl ?_
              refine op_oskip rfl rfl rfl rfl rfl rfl rfl rfl ?_
              refine op_oskip rfl rfl rfl rfl rfl rfl rfl rfl ?_
              refine op_oskip rfl rfl rfl rfl rfl rfl rfl rfl ?_
              refine op_oskip rfl rfl rfl rfl rfl rfl rfl rfl ?_
              refine op_oskip rfl rfl rfl rfl rfl rfl rfl rfl ?_
              refine op_oskip rfl rfl rfl rfl rfl rfl rfl rfl ?_
              refine op_oskip rfl rfl rfl rfl rfl rfl rfl rfl ?_
              refine op_oskip rfl rfl rfl rfl rfl rfl rfl rfl ?_
              refine op_pickF (nxogf rfl rfl rfl rfl rfl rfl (by kernel_rfl)) rfl rfl rfl ?_
              refine op_pickF (nxof rfl rfl rfl (by kernel_rfl)) rfl rfl rfl ?_
              refine At.oneNil ?_
              refine At.norm (hk_45 ?_)
              refine At.condF rfl ?_
              refine At.skip ?_
              refine At.norm (hk_44 ?_)
              refine At.region ?_
              refine op_move (nxlf rfl) rfl rfl ?_
              refine op_move (nxlf rfl) rfl rfl ?_
              refine op_lenS (nxlf rfl) se22 rfl rfl ?_
              refine op_slice (nxlf rfl) se22 rfl (.some rfl (show _ = (((its[k].form.length : Nat)) : Int) from by omega)) .none .none (by omega) (by omega) (by omega) (by simp) rfl ?_
              refine op_assign (nxlf rfl) rfl rfl ?_
              refine At.opsNil ?_
              refine At.inNorm ?_
              refine At.norm (hk_39 ?_)
              refine At.region ?_
              refine op_move (nxlf rfl) rfl rfl ?_
              refine op_addI (nxlf rfl) rfl rfl (by omega) (by omega) rfl ?_
              refine op_assign (nxlf rfl) rfl rfl ?_
              refine At.opsNil ?_
              refine At.norm ?_
              refine At.sub (L' := [J, Na, R]) (.cons _ (.cons _ (.cons _ (.cons _ (.cons_cons _ (.cons_cons _ (.cons_cons _ (.slnil)))))))) ?_
              refine At.back ?_ (.refl _) ⟨k + 1, sadr ab its[k].form.length cb 1, nb - its[k].form.length, cb - its[k].form.length, rfl, rfl, rfl, by omega, by omega, s127⟩ ?_
              · exact .cons (by first | exact lkI rfl (by omega) | rfl) (.cons (by first | exact lkI rfl (by omega) | rfl) (.cons (by first | exact lkI rfl (by omega) | rfl) .nil))
              · omega
        · refine At.exit (At.thenExit (At.thenExit (At.inHit ?_)))
          refine At.norm (hk_35 ?_)
          refine At.seq fun K46 hk_46 => ?_
          refine At.region ?_
          have hb0 : nb = 0 := by
            rw [List.drop_eq_nil_of_le (by omega)] at hnb
            exact hnb.symm
          refine op_move (nxlf rfl) rfl rfl ?_
          refine op_lenS (nxlf rfl) se22 rfl rfl ?_
          refine op_eql (nxlf rfl) rfl rfl rfl ?_
          refine op_move (nxlf rfl) rfl rfl ?_
          refine At.partP (d := 157) rfl (fun g157 => ?_) (fun g157 => ?_)
          · refine op_callA (nxga rfl rfl rfl rfl) .nil (wakes_f) Try.func15 rfl rfl (by simp) rfl ?_
            rintro v158 L158 ⟨rfl, rfl⟩
            change At _ _ _ [J, Na, R] _
            refine op_pickT (nxlf rfl) rfl rfl rfl ?_
            refine op_assign (nxlf rfl) rfl rfl ?_
            refine At.opsNil ?_
            refine At.norm (hk_46 ?_)
            refine At.ret (?_)
            refine At.sub (L' := [R]) (.cons _ (.cons _ (.cons_cons _ (.slnil)))) ?_
            refine At.ret1 (L1 := []) rfl (.tmp rfl .nil) (.refl _) (.refl _) ?_
            exact ⟨rfl, rfl⟩
          · exfalso; omega
end Go.Proofs.Ytohmmgggaegbbaa
