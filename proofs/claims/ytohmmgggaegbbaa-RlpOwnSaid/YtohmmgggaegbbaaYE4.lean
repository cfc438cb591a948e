/- rlp.encode, rlp.Encode write any item. No condition but that the form is not longer than a machine holds. -/
import Derived.Test.YtohmmgggaegbbaaYT3
import Derived.Test.YtohmmgggaegbbaaYI1
namespace Go.Proofs.Ytohmmgggaegbbaa
set_option linter.unusedVariables false
set_option linter.unusedSimpArgs false
open Go Go.RowKit
theorem rlpHead_le (b n : Nat) (h : n < 256 ^ 8) : (rlpHead b n).length ≤ 9 := by
  unfold rlpHead
  split
  · simp
  · have := bytesOf_le h
    simp; omega
/-- What encode tells: the form, or that it is too deep. -/
def EncP (t : It) (lists : Nat) (v : Value) (L : List Heaplet) : Prop :=
  (∃ M a cap, v = .tuple #[.slice a t.form.length cap, .int .i64 0] ∧ L = [M] ∧ Row M 5 1 a t.form.length cap (u8s t.form) ∧ lists + t.depth ≤ 1024) ∨
  (v = .tuple #[.slice none 0 0, .int .i64 7] ∧ L = [] ∧ ¬ lists + t.depth ≤ 1024)
theorem encode_bs {N : Heaplet} {bs : List UInt8} {its : List It} {ab ai : Option Addr} {nb cb ni ci : Nat} (h : RSl N 1 ab nb cb (u8s bs)) (lists : Nat) (q : Int) (hl : lists ≤ 1024) (hlen : (It.mk false bs its).form.length ≤ 1099511627776) :
    Fn Try.prog 34 #[.agg #[.bool false, .slice ab nb cb, .slice ai ni ci], .int .i64 q] [] [N] (EncP (.mk false bs its) lists) := by
  have hn := h.len8
  have hcap := h.cap63
  have hd : lists + (It.mk false bs its).depth ≤ 1024 := by simpa [It.depth] using hl
  have hf := form_false bs its
  have hsm := @small_iff bs
  have hub : small bs ≠ true → (rlpHead 128 nb).length + nb ≤ 1099511627776 := fun e => by rw [hf, if_neg e, List.length_append, hn] at hlen; exact hlen
  refine Fn.enter (vs := [.agg #[.bool false, .slice ab nb cb, .slice ai ni ci], .int .i64 q]) Try.func34 rfl rfl rfl ?_
  intro E R hR
  have h := h.le (hR N (by simp))
  change At _ _ E [R] _
  refine At.seq fun K1 hk_1 => ?_
  refine At.region ?_
  refine op_box (nxla rfl) rfl rfl rfl (fun N2 b2 B2 => ?_)
  refine op_assign (nxlf rfl) rfl rfl ?_
  refine op_assign (nxlf rfl) rfl rfl ?_
  refine At.opsNil ?_
  refine At.norm (hk_1 ?_)
  refine At.seq fun K2 hk_2 => ?_
  refine At.seq fun K3 hk_3 => ?_
  refine At.region ?_
  refine op_fieldAddr (nxlf rfl) fl25_0 rfl rfl ?_
  refine op_loadB (nxlf rfl) sc4 rfl B2 (by first | rfl) mem0 rfl ?_
  refine op_not (nxlf rfl) rfl rfl ?_
  refine At.opsNil ?_
  refine At.norm (hk_3 ?_)
  refine At.condT rfl ?_
  refine At.seq fun K4 hk_4 => ?_
  refine At.seq fun K5 hk_5 => ?_
  refine At.region ?_
  refine op_fieldAddr (nxlf rfl) fl25_1 rfl rfl ?_
  refine op_loadB (nxlf rfl) sc22 rfl B2 (by first | rfl) mem0 rfl ?_
  refine op_lenS (nxlf rfl) se22 rfl rfl ?_
  refine op_eql (nxlf rfl) rfl rfl rfl ?_
  refine op_move (nxlf rfl) rfl rfl ?_
  refine At.partP (d := 18) rfl (fun g18 => ?_) (fun g18 => ?_)
  · refine op_fieldAddr (nxgf rfl rfl rfl rfl) fl25_1 rfl rfl ?_
    refine op_loadB (nxgf rfl rfl rfl rfl) sc22 rfl B2 (by first | rfl) mem0 rfl ?_
    refine op_idx1 (nxgf rfl rfl rfl rfl) se22 rfl rfl (by assumption) (show _ = (((0 : Nat)) : Int) from by omega) (by omega) rfl ?_
    refine op_loadE (nxgf rfl rfl rfl rfl) sc5 rfl (by assumption) (by first | exact get8 (by omega) | exact get64 (by omega) | exact get32 (by omega)) (by first | exact mem0 | exact mem1 | exact mem2 | exact mem3 | exact mem4 | exact mem5 | exact mem6 | exact mem7 | exact mem8 | exact mem9) rfl ?_
    refine op_lss (nxgf rfl rfl rfl rfl) rfl rfl rfl ?_
    refine op_pickT (nxlf rfl) rfl rfl rfl ?_
    refine At.opsNil ?_
    refine At.norm (hk_5 ?_)
    refine At.condP rfl (fun c24 => ?_) (fun c24 => ?_)
    · refine At.seq fun K6 hk_6 => ?_
      refine At.region ?_
      refine op_fieldAddr (nxlf rfl) fl25_1 rfl rfl ?_
      refine op_loadB (nxlf rfl) sc22 rfl B2 (by first | rfl) mem0 rfl ?_
      refine op_idx1 (nxlf rfl) se22 rfl rfl (by assumption) (show _ = ((0 : Nat) : Int) from rfl) (by omega) rfl ?_
      refine op_loadE (nxlf rfl) sc5 rfl (by assumption) (by first | exact get8 (by omega) | exact get64 (by omega) | exact get32 (by omega)) (by first | exact mem0 | exact mem1 | exact mem2 | exact mem3 | exact mem4 | exact mem5 | exact mem6 | exact mem7 | exact mem8 | exact mem9) rfl ?_
      refine op_lit (nxla rfl) Try.underlying22 ze5 sz5 (.cons rfl .nil) rfl rfl (by simp [Value.cells]) rfl rfl rfl (fun N29 a29 r29 => ?_)
      simp only [flatV, List.flatMap_cons, List.flatMap_nil, Value.cells, List.append_nil, List.cons_append, List.nil_append] at r29
      have s29 := r29.rsl
      refine op_assign (nxlf rfl) rfl rfl ?_
      refine op_assign (nxlf rfl) rfl rfl ?_
      refine At.opsNil ?_
      refine At.norm (hk_6 ?_)
      refine At.ret (At.thenRet (At.thenRet (?_)))
      refine At.sub (L' := [N29, R]) (.cons_cons _ (.cons _ (.cons_cons _ (.slnil)))) ?_
      refine At.retN (L1 := [N29]) rfl (.tmp rfl (.tmp rfl .nil)) rfl (.refl _) (.refl _) ?_
      have e : (It.mk false bs its).form = [bs.getD 0 0] := by
        rw [hf, if_pos (hsm.2 ⟨by omega, by omega⟩)]
        exact one_eq (by omega)
      exact .inl ⟨N29, a29, 1, by rw [e]; rfl, rfl, by rw [e]; exact r29, hd⟩
    · refine At.skip ?_
      refine At.norm (hk_4 ?_)
      refine At.seq fun K7 hk_7 => ?_
      refine At.drawn [6] [0,1,2,4,5,3,6,7,8] (by kernel_rfl) (by kernel_rfl) ?_
      refine op_fieldAddr (nxof rfl rfl rfl (by kernel_rfl)) fl25_1 rfl rfl ?_
      refine op_loadB (nxof rfl rfl rfl (by kernel_rfl)) sc22 rfl B2 (by first | rfl) mem0 rfl ?_
      refine op_lenS (nxof rfl rfl rfl (by kernel_rfl)) se22 rfl rfl ?_
      refine op_fieldAddr (nxof rfl rfl rfl (by kernel_rfl)) fl25_1 rfl rfl ?_
      refine op_loadB (nxof rfl rfl rfl (by kernel_rfl)) sc22 rfl B2 (by first | rfl) mem0 rfl ?_
      have hub' := hub (fun e => by have := hsm.1 e; omega)
      refine op_callA (nxoa rfl rfl rfl) (.cons rfl (.cons rfl .nil)) (head_f 128 nb (by omega) (by omega)) Try.func50 rfl rfl (by simp) rfl ?_
      rintro v33 L33 ⟨M33, a33, p33, rfl, rfl, r33⟩
      change At _ _ _ [M33, N2, R] _
      refine op_append (nxos rfl rfl rfl rfl) Try.underlying22 Try.underlying22 te5 rfl rfl r33 (by assumption) (by first | exact mem0 | exact mem1 | exact mem2 | exact mem3 | exact mem4 | exact mem5 | exact mem6 | exact mem7 | exact mem8 | exact mem9) (by first | exact one_u8s _ | exact one_u64s _ | exact one_u32s _ | (intro u hu; simp at hu; subst hu; rfl)) (by omega) (by omega) sel0 rfl (fun N36 a36 p36 r36 => ?_)
      have s36 := r36.rsl
      refine op_assign (nxof rfl rfl rfl (by kernel_rfl)) rfl rfl ?_
      refine op_assign (nxof rfl rfl rfl (by kernel_rfl)) rfl rfl ?_
      refine At.oneNil ?_
      refine At.norm (hk_7 ?_)
      refine At.ret (At.thenRet (?_))
      refine At.sub (L' := [N36, R]) (.cons_cons _ (.cons _ (.cons_cons _ (.slnil)))) ?_
      refine At.retN (L1 := [N36]) rfl (.tmp rfl (.tmp rfl .nil)) rfl (.refl _) (.refl _) ?_
      have e : (It.mk false bs its).form = rlpHead 128 nb ++ bs := by rw [hf, if_neg (fun e => by have := hsm.1 e; omega), hn]
      exact .inl ⟨N36, a36, p36, by rw [e, List.length_append, hn], rfl, by rw [e, List.length_append, hn, u8s, List.map_append]; exact r36, hd⟩
  · refine op_skip rfl rfl rfl rfl rfl rfl rfl ?_
    refine op_skip rfl rfl rfl rfl rfl rfl rfl ?_
    refine op_skip rfl rfl rfl rfl rfl rfl rfl ?_
    refine op_skip rfl rfl rfl rfl rfl rfl rfl ?_
    refine op_skip rfl rfl rfl rfl rfl rfl rfl ?_
    refine op_pickF (nxlf rfl) rfl rfl rfl ?_
    refine At.opsNil ?_
    refine At.norm (hk_5 ?_)
    refine At.condF rfl ?_
    refine At.skip ?_
    refine At.norm (hk_4 ?_)
    refine At.seq fun K8 hk_8 => ?_
    refine At.drawn [6] [0,1,2,4,5,3,6,7,8] (by kernel_rfl) (by kernel_rfl) ?_
    refine op_fieldAddr (nxof rfl rfl rfl (by kernel_rfl)) fl25_1 rfl rfl ?_
    refine op_loadB (nxof rfl rfl rfl (by kernel_rfl)) sc22 rfl B2 (by first | rfl) mem0 rfl ?_
    refine op_lenS (nxof rfl rfl rfl (by kernel_rfl)) se22 rfl rfl ?_
    refine op_fieldAddr (nxof rfl rfl rfl (by kernel_rfl)) fl25_1 rfl rfl ?_
    refine op_loadB (nxof rfl rfl rfl (by kernel_rfl)) sc22 rfl B2 (by first | rfl) mem0 rfl ?_
    have hub' := hub (fun e => by have := hsm.1 e; omega)
    refine op_callA (nxoa rfl rfl rfl) (.cons rfl (.cons rfl .nil)) (head_f 128 nb (by omega) (by omega)) Try.func50 rfl rfl (by simp) rfl ?_
    rintro v33 L33 ⟨M33, a33, p33, rfl, rfl, r33⟩
    change At _ _ _ [M33, N2, R] _
    refine op_append (nxos rfl rfl rfl rfl) Try.underlying22 Try.underlying22 te5 rfl rfl r33 (by assumption) (by first | exact mem0 | exact mem1 | exact mem2 | exact mem3 | exact mem4 | exact mem5 | exact mem6 | exact mem7 | exact mem8 | exact mem9) (by first | exact one_u8s _ | exact one_u64s _ | exact one_u32s _ | (intro u hu; simp at hu; subst hu; rfl)) (by omega) (by omega) sel0 rfl (fun N36 a36 p36 r36 => ?_)
    have s36 := r36.rsl
    refine op_assign (nxof rfl rfl rfl (by kernel_rfl)) rfl rfl ?_
    refine op_assign (nxof rfl rfl rfl (by kernel_rfl)) rfl rfl ?_
    refine At.oneNil ?_
    refine At.norm (hk_8 ?_)
    refine At.ret (At.thenRet (?_))
    refine At.sub (L' := [N36, R]) (.cons_cons _ (.cons _ (.cons_cons _ (.slnil)))) ?_
    refine At.retN (L1 := [N36]) rfl (.tmp rfl (.tmp rfl .nil)) rfl (.refl _) (.refl _) ?_
    have e : (It.mk false bs its).form = rlpHead 128 nb ++ bs := by rw [hf, if_neg (fun e => by have := hsm.1 e; omega), hn]
    exact .inl ⟨N36, a36, p36, by rw [e, List.length_append, hn], rfl, by rw [e, List.length_append, hn, u8s, List.map_append]; exact r36, hd⟩
theorem encode_its {N : Heaplet} {its : List It} {xs : List IV} {ab ai : Option Addr} {nb cb ni ci : Nat} {bs : List UInt8} (hI : RSl N 3 ai ni ci (cellsI xs)) (hX : ItsN N its xs) (lists : Nat) (q : Int) (hq : q = lists) (hl : lists ≤ 1024) (hlen : (It.mk true bs its).form.length ≤ 1099511627776)
    (ih : ∀ t ∈ its, ∀ (N : Heaplet) (x : IV) (lists : Nat) (q : Int), ItN N t x → q = lists → lists ≤ 1024 → t.form.length ≤ 1099511627776 → Fn Try.prog 34 #[.agg #[.bool x.l, .slice x.ab x.nb x.cb, .slice x.ai x.ni x.ci], .int .i64 q] [] [N] (EncP t lists)) :
    Fn Try.prog 34 #[.agg #[.bool true, .slice ab nb cb, .slice ai ni ci], .int .i64 q] [] [N] (EncP (.mk true bs its) lists) := by
  have hn : xs.length = ni := by have := hI.1; rw [length_cellsI] at this; omega
  have hn2 := hX.length
  have hcap := hI.cap63
  have hf := form_true bs its
  have hlf : (rlpHead 192 (It.forms its).length).length + (It.forms its).length ≤ 1099511627776 := by rw [hf, List.length_append] at hlen; exact hlen
  have hdep : (It.mk true bs its).depth = It.depths its + 1 := by simp [It.depth]
  refine Fn.enter (vs := [.agg #[.bool true, .slice ab nb cb, .slice ai ni ci], .int .i64 q]) Try.func34 rfl rfl rfl ?_
  intro E R hR
  have hI := hI.le (hR N (by simp))
  have hX := hX.le (hR N (by simp))
  change At _ _ E [R] _
  refine At.seq fun K1 hk_1 => ?_
  refine At.region ?_
  refine op_box (nxla rfl) rfl rfl rfl (fun N2 b2 B2 => ?_)
  refine op_assign (nxlf rfl) rfl rfl ?_
  refine op_assign (nxlf rfl) rfl rfl ?_
  refine At.opsNil ?_
  refine At.norm (hk_1 ?_)
  refine At.seq fun K2 hk_2 => ?_
  refine At.seq fun K3 hk_3 => ?_
  refine At.region ?_
  refine op_fieldAddr (nxlf rfl) fl25_0 rfl rfl ?_
  refine op_loadB (nxlf rfl) sc4 rfl B2 (by first | rfl) mem0 rfl ?_
  refine op_not (nxlf rfl) rfl rfl ?_
  refine At.opsNil ?_
  refine At.norm (hk_3 ?_)
  refine At.condF rfl ?_
  refine At.skip ?_
  refine At.norm (hk_2 ?_)
  refine At.seq fun K4 hk_4 => ?_
  refine At.seq fun K5 hk_5 => ?_
  refine At.region ?_
  refine op_move (nxlf rfl) rfl rfl ?_
  refine op_eql (nxlf rfl) rfl rfl rfl ?_
  refine At.opsNil ?_
  refine At.norm (hk_5 ?_)
  refine At.condP rfl (fun c38 => ?_) (fun c38 => ?_)
  · refine At.seq fun K6 hk_6 => ?_
    refine At.region ?_
    refine op_assign (nxlf rfl) rfl rfl ?_
    refine op_assign (nxlf rfl) rfl rfl ?_
    refine At.opsNil ?_
    refine At.norm (hk_6 ?_)
    refine At.ret (At.thenRet (?_))
    refine At.sub (L' := [R]) (.cons _ (.cons_cons _ (.slnil))) ?_
    refine At.retN (L1 := []) rfl (.tmp rfl (.tmp rfl .nil)) rfl (.refl _) (.refl _) ?_
    exact .inr ⟨rfl, rfl, by omega⟩
  · refine At.skip ?_
    refine At.norm (hk_4 ?_)
    refine At.seq fun K7 hk_7 => ?_
    refine At.region ?_
    refine op_assign (nxlf rfl) rfl rfl ?_
    refine At.opsNil ?_
    refine At.norm (hk_7 ?_)
    refine At.seq fun K8 hk_8 => ?_
    refine At.seq fun K9 hk_9 => ?_
    refine At.region ?_
    refine op_fieldAddr (nxlf rfl) fl25_2 rfl rfl ?_
    refine op_loadB (nxlf rfl) sc23 rfl B2 (by first | rfl) mem0 rfl ?_
    refine op_lenS (nxlf rfl) se23 rfl rfl ?_
    refine op_move (nxlf rfl) rfl rfl ?_
    refine At.opsNil ?_
    refine At.norm (hk_9 ?_)
    refine At.block ?_
    refine At.empty ?_
    refine At.perm sel2 ?_
    refine At.perm sel1 ?_
    refine At.perm sel2 ?_
    refine At.loop (fun fr_ hp_ ms_ => ∃ (k np : Nat) (ap : Option Addr) (cp : Nat) (Np : Heaplet), fr_ = [(1, .int .i64 q), (2, .pointer (some ⟨b2, 0, none⟩)), (6, .slice ap np cp), (40, .slice ai ni ci), (41, .int .i64 (ni : Int)), (42, .int .i64 (k : Int))] ∧ hp_ = [N2, Np, R] ∧ ni - k = ms_ ∧ (k ≤ ni) ∧ (np = (It.forms (its.take k)).length) ∧ (Row Np 5 1 ap np cp (u8s (It.forms (its.take k)))) ∧ (∀ t ∈ its.take k, lists + 1 + t.depth ≤ 1024)) ?_ (.refl _) ⟨0, 0, none, 0, nilH, rfl, rfl, rfl, by omega, by simp [It.forms], by simpa [It.forms, u8s] using Row.nil nilH 5 1, by simp⟩ ?_
    · exact .cons (by first | exact lkI rfl (by omega) | rfl) (.cons (by first | exact lkI rfl (by omega) | rfl) (.cons (by first | exact lkI rfl (by omega) | rfl) (.cons (by first | exact lkI rfl (by omega) | rfl) (.cons (by first | exact lkI rfl (by omega) | rfl) (.cons (by first | exact lkI rfl (by omega) | rfl) .nil)))))
    rintro _ _ _ ⟨k, np, ap, cp, Np, rfl, rfl, rfl, hk, hnp, rp, hd⟩
    have sp := rp.rsl
    have hle := forms_take_le its k
    refine At.seq fun K10 hk_10 => ?_
    refine At.region ?_
    refine op_lss (nxlf rfl) rfl rfl rfl ?_
    refine At.opsNil ?_
    refine At.norm (hk_10 ?_)
    refine At.seq fun K11 hk_11 => ?_
    refine At.condP rfl (fun c43 => ?_) (fun c43 => ?_)
    · have hlt : k < its.length := by omega
      obtain ⟨x, hx, hi⟩ := hX.get (List.getElem?_eq_getElem hlt)
      have hts := forms_take_succ (List.getElem?_eq_getElem hlt)
      have hfe := form_le (List.getElem_mem hlt)
      have hle2 := forms_take_le its (k + 1)
      have hsum : np + (its[k]).form.length ≤ (It.forms its).length := by rw [hts, List.length_append] at hle2; omega
      refine At.skip ?_
      refine At.norm (hk_11 ?_)
      refine At.seq fun K12 hk_12 => ?_
      refine At.block ?_
      refine At.seq fun K13 hk_13 => ?_
      refine At.region ?_
      refine op_idxE (nxlf rfl) se23 rfl rfl (by assumption) (show _ = (((k : Nat)) : Int) from by omega) (by omega) rfl ?_
      refine op_loadAggE (nxlf rfl) ag25 rfl (by assumption) (by exact cells_at hx) (by rfl) (by omega) (by first | exact mem0 | exact mem1 | exact mem2 | exact mem3 | exact mem4 | exact mem5 | exact mem6 | exact mem7 | exact mem8 | exact mem9) rfl ?_
      refine op_alloc (nxla rfl) ze25 rfl (fun N8 b8 B8 => ?_)
      change Blk N8 b8 _ [.bool false, .slice none 0 0, .slice none 0 0] at B8
      refine op_store (nxl rfl) sz25 rfl rfl rfl rfl rfl B8 (by simp) sel0 (fun N8 B8 => ?_)
      simp only [setL, List.set] at B8
      refine At.opsNil ?_
      refine At.norm (hk_13 ?_)
      refine At.seq fun K14 hk_14 => ?_
      refine At.region ?_
      refine op_loadAggB (ds := [_, _, _]) (nxlf rfl) ag25 rfl B8 rfl rfl mem0 rfl ?_
      refine op_move (nxlf rfl) rfl rfl ?_
      refine op_addI (nxlf rfl) rfl rfl (by omega) (by omega) rfl ?_
      refine op_callA (nxla rfl) (.cons rfl (.cons rfl .nil)) (ih its[k] (List.getElem_mem hlt) R x (lists + 1) (q + 1) hi (by omega) (by omega) (by omega)) Try.func34 rfl rfl (by simp) rfl ?_
      rintro v50 L50 (⟨M50, a50, p50, rfl, rfl, r50, hd50⟩ | ⟨rfl, rfl, hd50⟩)
      · change At _ _ _ [M50, N8, N2, Np, R] _
        have s50 := r50.rsl
        refine op_move (nxlf rfl) rfl rfl ?_
        refine op_extract (nxlf rfl) rfl rfl rfl ?_
        refine op_extract (nxlf rfl) rfl rfl rfl ?_
        refine op_assign (nxlf rfl) rfl rfl ?_
        refine op_assign (nxlf rfl) rfl rfl ?_
        refine At.opsNil ?_
        refine At.norm (hk_14 ?_)
        refine At.seq fun K15 hk_15 => ?_
        refine At.seq fun K16 hk_16 => ?_
        refine At.region ?_
        refine op_move (nxlf rfl) rfl rfl ?_
        refine op_neq (nxlf rfl) rfl rfl rfl ?_
        refine At.opsNil ?_
        refine At.norm (hk_16 ?_)
        refine At.condF rfl ?_
        refine At.skip ?_
        refine At.norm (hk_15 ?_)
        refine At.region ?_
        refine op_move (nxlf rfl) rfl rfl ?_
        refine op_move (nxlf rfl) rfl rfl ?_
        refine op_append (nxl rfl) Try.underlying22 Try.underlying22 te5 rfl rfl rp (by assumption) (by first | exact mem0 | exact mem1 | exact mem2 | exact mem3 | exact mem4 | exact mem5 | exact mem6 | exact mem7 | exact mem8 | exact mem9) (by first | exact one_u8s _ | exact one_u64s _ | exact one_u32s _ | (intro u hu; simp at hu; subst hu; rfl)) (by omega) (by omega) sel3 rfl (fun N58 a58 p58 r58 => ?_)
        have s58 := r58.rsl
        refine op_assign (nxlf rfl) rfl rfl ?_
        refine At.opsNil ?_
        refine At.inNorm ?_
        refine At.norm (hk_12 ?_)
        refine At.region ?_
        refine op_addI (nxlf rfl) rfl rfl (by omega) (by omega) rfl ?_
        refine op_move (nxlf rfl) rfl rfl ?_
        refine At.opsNil ?_
        refine At.norm ?_
        refine At.sub (L' := [N58, N2, R]) (.cons_cons _ (.cons _ (.cons _ (.cons_cons _ (.cons_cons _ (.slnil)))))) ?_
        refine At.perm sel2 ?_
        refine At.perm sel1 ?_
        refine At.perm sel2 ?_
        refine At.back ?_ (.refl _) ⟨k + 1, np + (its[k]).form.length, a58, p58, N58, rfl, rfl, rfl, by omega, by rw [hts, List.length_append, hnp], by rw [hts, u8s, List.map_append]; exact r58, fun t ht => by rw [List.take_succ_eq_append_getElem hlt, List.mem_append] at ht; rcases ht with ht | ht; exact hd t ht; rw [List.mem_singleton.1 ht]; exact hd50⟩ ?_
        · exact .cons (by first | exact lkI rfl (by omega) | rfl) (.cons (by first | exact lkI rfl (by omega) | rfl) (.cons (by first | exact lkI rfl (by omega) | rfl) (.cons (by first | exact lkI rfl (by omega) | rfl) (.cons (by first | exact lkI rfl (by omega) | rfl) (.cons (by first | exact lkI rfl (by omega) | rfl) .nil)))))
        · omega
      · change At _ _ _ [N8, N2, Np, R] _
        refine op_move (nxlf rfl) rfl rfl ?_
        refine op_extract (nxlf rfl) rfl rfl rfl ?_
        refine op_extract (nxlf rfl) rfl rfl rfl ?_
        refine op_assign (nxlf rfl) rfl rfl ?_
        refine op_assign (nxlf rfl) rfl rfl ?_
        refine At.opsNil ?_
        refine At.norm (hk_14 ?_)
        refine At.seq fun K17 hk_17 => ?_
        refine At.seq fun K18 hk_18 => ?_
        refine At.region ?_
        refine op_move (nxlf rfl) rfl rfl ?_
        refine op_neq (nxlf rfl) rfl rfl rfl ?_
        refine At.opsNil ?_
        refine At.norm (hk_18 ?_)
        refine At.condT rfl ?_
        refine At.seq fun K19 hk_19 => ?_
        refine At.region ?_
        refine op_move (nxlf rfl) rfl rfl ?_
        refine op_assign (nxlf rfl) rfl rfl ?_
        refine op_assign (nxlf rfl) rfl rfl ?_
        refine At.opsNil ?_
        refine At.norm (hk_19 ?_)
        refine At.ret (At.thenRet (At.inRet (At.thenRet (At.thenRet (At.inRet (At.thenRet (?_)))))))
        refine At.sub (L' := [R]) (.cons _ (.cons _ (.cons _ (.cons_cons _ (.slnil))))) ?_
        refine At.retN (L1 := []) rfl (.tmp rfl (.tmp rfl .nil)) rfl (.refl _) (.refl _) ?_
        refine .inr ⟨rfl, rfl, fun h => hd50 ?_⟩
        have := depths_le.1 (Nat.le_refl _) _ (List.getElem_mem hlt)
        omega
    · refine At.exit (At.thenExit (At.thenExit (At.inHit ?_)))
      refine At.norm (hk_8 ?_)
      refine At.seq fun K20 hk_20 => ?_
      refine At.region ?_
      refine op_move (nxlf rfl) rfl rfl ?_
      refine op_lenS (nxlf rfl) se22 rfl rfl ?_
      refine op_callA (nxla rfl) (.cons rfl (.cons rfl .nil)) (head_f 192 np (by omega) (by omega)) Try.func50 rfl rfl (by simp) rfl ?_
      rintro v62 L62 ⟨M62, a62, p62, rfl, rfl, r62⟩
      change At _ _ _ [M62, N2, Np, R] _
      refine op_move (nxlf rfl) rfl rfl ?_
      have h9 := rlpHead_le 192 np (by omega)
      refine op_append (nxl rfl) Try.underlying22 Try.underlying22 te5 rfl rfl r62 (by assumption) (by first | exact mem0 | exact mem1 | exact mem2 | exact mem3 | exact mem4 | exact mem5 | exact mem6 | exact mem7 | exact mem8 | exact mem9) (by first | exact one_u8s _ | exact one_u64s _ | exact one_u32s _ | (intro u hu; simp at hu; subst hu; rfl)) (by omega) (by omega) sel0 rfl (fun N64 a64 p64 r64 => ?_)
      have s64 := r64.rsl
      refine op_assign (nxlf rfl) rfl rfl ?_
      refine op_assign (nxlf rfl) rfl rfl ?_
      refine At.opsNil ?_
      refine At.norm (hk_20 ?_)
      refine At.ret (?_)
      refine At.sub (L' := [N64, R]) (.cons_cons _ (.cons _ (.cons _ (.cons_cons _ (.slnil))))) ?_
      refine At.retN (L1 := [N64]) rfl (.tmp rfl (.tmp rfl .nil)) rfl (.refl _) (.refl _) ?_
      obtain rfl : k = its.length := by omega
      rw [List.take_length] at hnp hd r64
      subst hnp
      refine .inl ⟨N64, a64, p64, by rw [hf, List.length_append], rfl, by rw [hf, List.length_append, u8s, List.map_append]; exact r64, ?_⟩
      rw [hdep]
      by_cases hz : its = []
      · subst hz; simp [It.depths]; omega
      · have : It.depths its ≤ 1024 - lists - 1 := depths_le.2 fun t ht => by have := hd t ht; omega
        obtain ⟨t, ht⟩ := List.exists_mem_of_ne_nil _ hz
        have := hd t ht
        omega
theorem encode_f (t : It) : ∀ (N : Heaplet) (x : IV) (lists : Nat) (q : Int), ItN N t x → q = lists → lists ≤ 1024 → t.form.length ≤ 1099511627776 → Fn Try.prog 34 #[.agg #[.bool x.l, .slice x.ab x.nb x.cb, .slice x.ai x.ni x.ci], .int .i64 q] [] [N] (EncP t lists) := by
  induction t using It.ind_it with | h l bs its ih => ?_
  intro N x lists q h hq hl hlen
  simp only [ItN] at h
  obtain ⟨rfl, h1, xs, h2, h3⟩ := h
  cases hb : x.l with
  | false => rw [hb] at hlen; exact encode_bs h1 lists q hl hlen
  | true => rw [hb] at hlen; exact encode_its h2 h3 lists q hq hl hlen ih
theorem Encode_f {N : Heaplet} {t : It} {x : IV} (h : ItN N t x) (hlen : t.form.length ≤ 1099511627776) : Fn Try.prog 13 #[.agg #[.bool x.l, .slice x.ab x.nb x.cb, .slice x.ai x.ni x.ci]] [] [N] (EncP t 0) := by
  refine Fn.enter (vs := [.agg #[.bool x.l, .slice x.ab x.nb x.cb, .slice x.ai x.ni x.ci]]) Try.func13 rfl rfl rfl ?_
  intro E R hR
  have h := h.le (hR N (by simp))
  change At _ _ E [R] _
  refine At.seq fun K1 hk_1 => ?_
  refine At.region ?_
  refine op_box (nxla rfl) rfl rfl rfl (fun N1 b1 B1 => ?_)
  refine op_assign (nxlf rfl) rfl rfl ?_
  refine op_assign (nxlf rfl) rfl rfl ?_
  refine At.opsNil ?_
  refine At.norm (hk_1 ?_)
  refine At.seq fun K2 hk_2 => ?_
  refine At.region ?_
  refine op_loadAggB (ds := [_, _, _]) (nxlf rfl) ag25 rfl B1 rfl rfl mem0 rfl ?_
  refine op_callA (nxla rfl) (.cons rfl (.cons rfl .nil)) (encode_f t R x 0 0 h rfl (by omega) hlen) Try.func34 rfl rfl (by simp) rfl ?_
  rintro v5 L5 (⟨M5, a5, p5, rfl, rfl, r5, hd5⟩ | ⟨rfl, rfl, hd5⟩)
  · change At _ _ _ [M5, N1, R] _
    refine op_extract (nxlf rfl) rfl rfl rfl ?_
    refine op_extract (nxlf rfl) rfl rfl rfl ?_
    refine op_assign (nxlf rfl) rfl rfl ?_
    refine op_assign (nxlf rfl) rfl rfl ?_
    refine At.opsNil ?_
    refine At.norm (hk_2 ?_)
    refine At.ret (?_)
    refine At.sub (L' := [M5, R]) (.cons_cons _ (.cons _ (.cons_cons _ (.slnil)))) ?_
    refine At.retN (L1 := [M5]) rfl (.tmp rfl (.tmp rfl .nil)) rfl (.refl _) (.refl _) ?_
    exact .inl ⟨M5, a5, p5, rfl, rfl, r5, hd5⟩
  · change At _ _ _ [N1, R] _
    refine op_extract (nxlf rfl) rfl rfl rfl ?_
    refine op_extract (nxlf rfl) rfl rfl rfl ?_
    refine op_assign (nxlf rfl) rfl rfl ?_
    refine op_assign (nxlf rfl) rfl rfl ?_
    refine At.opsNil ?_
    refine At.norm (hk_2 ?_)
    refine At.ret (?_)
    refine At.sub (L' := [R]) (.cons _ (.cons_cons _ (.slnil))) ?_
    refine At.retN (L1 := []) rfl (.tmp rfl (.tmp rfl .nil)) rfl (.refl _) (.refl _) ?_
    exact .inr ⟨rfl, rfl, hd5⟩
end Go.Proofs.Ytohmmgggaegbbaa
