/- Several texts in one: see the remarks ahead of each part. No condition but those told there. -/
import Derived.Test.YtljacjjeinmfnaaU7
import Derived.Test.YtljacjjeinmfnaaU5
import Derived.Test.YtljacjjeinmfnaaU4
/- rlp.decode, rlp.Decode read the item that bytes tell. No condition but that they are not longer than a machine holds. -/
namespace Go.Proofs.Ytljacjjeinmfnaa
set_option linter.unusedVariables false
set_option linter.unusedSimpArgs false
open Go Go.RowKit
set_option maxRecDepth 100000
/-- What decode tells. -/
def DecP (ao : Option Addr) (n cap : Nat) (b : List UInt8) (r : Except Nat (It × List UInt8)) (v : Value) (L : List Heaplet) : Prop :=
  (∃ t q M, ∃ x : IV, ∃ aq cq, r = .ok (t, q) ∧ v = .tuple #[.agg #[.bool x.l, .slice x.ab x.nb x.cb, .slice x.ai x.ni x.ci], .slice aq q.length cq, .int .i64 0] ∧ L = [M] ∧ ItN M t x ∧ ∀ N, RSl N 1 ao n cap (u8s b) → RSl N 1 aq q.length cq (u8s q)) ∨
  (∃ e : Nat, r = .error e ∧ v = .tuple #[.agg #[.bool false, .slice none 0 0, .slice none 0 0], .slice none 0 0, .int .i64 (e : Int)] ∧ L = [] ∧ e ≠ 0)
end Go.Proofs.Ytljacjjeinmfnaa
/- rlp.encode, rlp.Encode write any item. No condition but that the form is not longer than a machine holds. -/
namespace Go.Proofs.Ytljacjjeinmfnaa
set_option linter.unusedVariables false
set_option linter.unusedSimpArgs false
open Go Go.RowKit
set_option maxRecDepth 100000
theorem rlpHead_le (b n : Nat) (h : n < 256 ^ 8) : (rlpHead b n).length ≤ 9 := by
  unfold rlpHead
  split
  · simp
  · have := bytesOf_le h
    simp; omega
/-- What encode tells: the form, or that it is too deep. -/
def EncP (t : It) (lists : Nat) (v : Value) (L : List Heaplet) : Prop :=
  (∃ M a cap, v = .tuple #[.slice a t.form.length cap, .int .i64 0] ∧ L = [M] ∧ Row M 5 1 a t.form.length cap (u8s t.form) ∧ lists + t.depth ≤ 1024) ∨
  (v = .tuple #[.slice none 0 0, .int .i64 7] ∧ L = [] ∧ ¬ lists + t.depth ≤ 1024)
theorem encode_bs {N : Heaplet} {bs : List UInt8} {its : List It} {ab ai : Option Addr} {nb cb ni ci : Nat} (h : RSl N 1 ab nb cb (u8s bs)) (lists : Nat) (q : Int) (hl : lists ≤ 1024) (hlen : (It.mk false bs its).form.length ≤ 1099511627776) :
    Fn Try.prog 115 #[.agg #[.bool false, .slice ab nb cb, .slice ai ni ci], .int .i64 q] [] [N] (EncP (.mk false bs its) lists) := by
  have hn := h.len8
  have hcap := h.cap63
  have hd : lists + (It.mk false bs its).depth ≤ 1024 := by simpa [It.depth] using hl
  have hf := form_false bs its
  have hsm := @small_iffI bs
  have hub : small bs ≠ true → (rlpHead 128 nb).length + nb ≤ 1099511627776 := fun e => by rw [hf, if_neg e, List.length_append, hn] at hlen; exact hlen
  refine Fn.enter (vs := [.agg #[.bool false, .slice ab nb cb, .slice ai ni ci], .int .i64 q]) Try.func115 rfl rfl rfl ?_
  intro E R hR
  have h := h.le (hR N (by simp))
  change At _ _ E [R] _
  refine At.seq fun K1 hk_1 => ?_
  refine At.region ?_
  refine op_box (nxla rfl) rfl rfl rfl (fun N2 b2 B2 => ?_)
  refine op_assign (nxlf rfl) rfl rfl ?_
  refine op_assign (nxlf rfl) rfl rfl ?_
  refine At.opsNil ?_
  refine At.norm (hk_1 ?_)
  refine At.seq fun K2 hk_2 => ?_
  refine At.seq fun K3 hk_3 => ?_
  refine At.region ?_
  refine op_fieldAddr (nxlf rfl) fl92_0 rfl rfl ?_
  refine op_loadB (nxlf rfl) sc4 rfl B2 (by first | rfl) mem0 rfl ?_
  refine op_not (nxlf rfl) rfl rfl ?_
  refine At.opsNil ?_
  refine At.norm (hk_3 ?_)
  refine At.condT rfl ?_
  refine At.seq fun K4 hk_4 => ?_
  refine At.seq fun K5 hk_5 => ?_
  refine At.region ?_
  refine op_fieldAddr (nxlf rfl) fl92_1 rfl rfl ?_
  refine op_loadB (nxlf rfl) sc27 rfl B2 (by first | rfl) mem0 rfl ?_
  refine op_lenS (nxlf rfl) se27 rfl rfl ?_
  refine op_eql (nxlf rfl) rfl rfl rfl ?_
  refine op_move (nxlf rfl) rfl rfl ?_
  refine At.partP (d := 18) rfl (fun g18 => ?_) (fun g18 => ?_)
  · refine op_fieldAddr (nxgf rfl rfl rfl rfl) fl92_1 rfl rfl ?_
    refine op_loadB (nxgf rfl rfl rfl rfl) sc27 rfl B2 (by first | rfl) mem0 rfl ?_
    refine op_idx1 (nxgf rfl rfl rfl rfl) se27 rfl rfl (by assumption) (show _ = (((0 : Nat)) : Int) from by omega) (by omega) rfl ?_
    refine op_loadE (nxgf rfl rfl rfl rfl) sc5 rfl (by assumption) (by first | exact get8 (by omega) | exact get64 (by omega) | exact get32 (by omega)) (by first | exact mem0 | exact mem1 | exact mem2 | exact mem3 | exact mem4 | exact mem5 | exact mem6 | exact mem7 | exact mem8 | exact mem9) rfl ?_
    refine op_lss (nxgf rfl rfl rfl rfl) rfl rfl rfl ?_
    refine op_pickT (nxlf rfl) rfl rfl rfl ?_
    refine At.opsNil ?_
    refine At.norm (hk_5 ?_)
    refine At.condP rfl (fun c24 => ?_) (fun c24 => ?_)
    · refine At.seq fun K6 hk_6 => ?_
      refine At.region ?_
      refine op_fieldAddr (nxlf rfl) fl92_1 rfl rfl ?_
      refine op_loadB (nxlf rfl) sc27 rfl B2 (by first | rfl) mem0 rfl ?_
      refine op_idx1 (nxlf rfl) se27 rfl rfl (by assumption) (show _ = ((0 : Nat) : Int) from rfl) (by omega) rfl ?_
      refine op_loadE (nxlf rfl) sc5 rfl (by assumption) (by first | exact get8 (by omega) | exact get64 (by omega) | exact get32 (by omega)) (by first | exact mem0 | exact mem1 | exact mem2 | exact mem3 | exact mem4 | exact mem5 | exact mem6 | exact mem7 | exact mem8 | exact mem9) rfl ?_
      refine op_lit (nxla rfl) Try.underlying27 ze5 sz5 (.cons rfl .nil) rfl rfl (by simp [Value.cells]) rfl rfl rfl (fun N29 a29 r29 => ?_)
      simp only [flatV, List.flatMap_cons, List.flatMap_nil, Value.cells, List.append_nil, List.cons_append, List.nil_append] at r29
      have s29 := r29.rsl
      refine op_assign (nxlf rfl) rfl rfl ?_
      refine op_assign (nxlf rfl) rfl rfl ?_
      refine At.opsNil ?_
      refine At.norm (hk_6 ?_)
      refine At.ret (At.thenRet (At.thenRet (?_)))
      refine At.sub (L' := [N29, R]) (.cons_cons _ (.cons _ (.cons_cons _ (.slnil)))) ?_
      refine At.retN (L1 := [N29]) rfl (.tmp rfl (.tmp rfl .nil)) rfl (.refl _) (.refl _) ?_
      have e : (It.mk false bs its).form = [bs.getD 0 0] := by
        rw [hf, if_pos (hsm.2 ⟨by omega, by omega⟩)]
        exact one_eq (by omega)
      exact .inl ⟨N29, a29, 1, by rw [e]; rfl, rfl, by rw [e]; exact r29, hd⟩
    · refine At.skip ?_
      refine At.norm (hk_4 ?_)
      refine At.seq fun K7 hk_7 => ?_
      refine At.drawn [6] [0,1,2,4,5,3,6,7,8] (by kernel_rfl) (by kernel_rfl) ?_
      refine op_fieldAddr (nxof rfl rfl rfl (by kernel_rfl)) fl92_1 rfl rfl ?_
      refine op_loadB (nxof rfl rfl rfl (by kernel_rfl)) sc27 rfl B2 (by first | rfl) mem0 rfl ?_
      refine op_lenS (nxof rfl rfl rfl (by kernel_rfl)) se27 rfl rfl ?_
      refine op_fieldAddr (nxof rfl rfl rfl (by kernel_rfl)) fl92_1 rfl rfl ?_
      refine op_loadB (nxof rfl rfl rfl (by kernel_rfl)) sc27 rfl B2 (by first | rfl) mem0 rfl ?_
      have hub' := hub (fun e => by have := hsm.1 e; omega)
      refine op_callA (nxoa rfl rfl rfl) (.cons rfl (.cons rfl .nil)) (head_f 128 nb (by omega) (by omega)) Try.func131 rfl rfl (by simp) rfl ?_
      rintro v33 L33 ⟨M33, a33, p33, rfl, rfl, r33⟩
      change At _ _ _ [M33, N2, R] _
      refine op_append (nxos rfl rfl rfl rfl) Try.underlying27 Try.underlying27 te5 rfl rfl r33 (by assumption) (by first | exact mem0 | exact mem1 | exact mem2 | exact mem3 | exact mem4 | exact mem5 | exact mem6 | exact mem7 | exact mem8 | exact mem9) (by first | exact one_u8s _ | exact one_u64s _ | exact one_u32s _ | (intro u hu; simp at hu; subst hu; rfl)) (by omega) (by omega) sel0 rfl (fun N36 a36 p36 r36 => ?_)
      have s36 := r36.rsl
      refine op_assign (nxof rfl rfl rfl (by kernel_rfl)) rfl rfl ?_
      refine op_assign (nxof rfl rfl rfl (by kernel_rfl)) rfl rfl ?_
      refine At.oneNil ?_
      refine At.norm (hk_7 ?_)
      refine At.ret (At.thenRet (?_))
      refine At.sub (L' := [N36, R]) (.cons_cons _ (.cons _ (.cons_cons _ (.slnil)))) ?_
      refine At.retN (L1 := [N36]) rfl (.tmp rfl (.tmp rfl .nil)) rfl (.refl _) (.refl _) ?_
      have e : (It.mk false bs its).form = rlpHead 128 nb ++ bs := by rw [hf, if_neg (fun e => by have := hsm.1 e; omega), hn]
      exact .inl ⟨N36, a36, p36, by rw [e, List.length_append, hn], rfl, by rw [e, List.length_append, hn, u8s, List.map_append]; exact r36, hd⟩
  · refine op_skip rfl rfl rfl rfl rfl rfl rfl ?_
    refine op_skip rfl rfl rfl rfl rfl rfl rfl ?_
    refine op_skip rfl rfl rfl rfl rfl rfl rfl ?_
    refine op_skip rfl rfl rfl rfl rfl rfl rfl ?_
    refine op_skip rfl rfl rfl rfl rfl rfl rfl ?_
    refine op_pickF (nxlf rfl) rfl rfl rfl ?_
    refine At.opsNil ?_
    refine At.norm (hk_5 ?_)
    refine At.condF rfl ?_
    refine At.skip ?_
    refine At.norm (hk_4 ?_)
    refine At.seq fun K8 hk_8 => ?_
    refine At.drawn [6] [0,1,2,4,5,3,6,7,8] (by kernel_rfl) (by kernel_rfl) ?_
    refine op_fieldAddr (nxof rfl rfl rfl (by kernel_rfl)) fl92_1 rfl rfl ?_
    refine op_loadB (nxof rfl rfl rfl (by kernel_rfl)) sc27 rfl B2 (by first | rfl) mem0 rfl ?_
    refine op_lenS (nxof rfl rfl rfl (by kernel_rfl)) se27 rfl rfl ?_
    refine op_fieldAddr (nxof rfl rfl rfl (by kernel_rfl)) fl92_1 rfl rfl ?_
    refine op_loadB (nxof rfl rfl rfl (by kernel_rfl)) sc27 rfl B2 (by first | rfl) mem0 rfl ?_
    have hub' := hub (fun e => by have := hsm.1 e; omega)
    refine op_callA (nxoa rfl rfl rfl) (.cons rfl (.cons rfl .nil)) (head_f 128 nb (by omega) (by omega)) Try.func131 rfl rfl (by simp) rfl ?_
    rintro v33 L33 ⟨M33, a33, p33, rfl, rfl, r33⟩
    change At _ _ _ [M33, N2, R] _
    refine op_append (nxos rfl rfl rfl rfl) Try.underlying27 Try.underlying27 te5 rfl rfl r33 (by assumption) (by first | exact mem0 | exact mem1 | exact mem2 | exact mem3 | exact mem4 | exact mem5 | exact mem6 | exact mem7 | exact mem8 | exact mem9) (by first | exact one_u8s _ | exact one_u64s _ | exact one_u32s _ | (intro u hu; simp at hu; subst hu; rfl)) (by omega) (by omega) sel0 rfl (fun N36 a36 p36 r36 => ?_)
    have s36 := r36.rsl
    refine op_assign (nxof rfl rfl rfl (by kernel_rfl)) rfl rfl ?_
    refine op_assign (nxof rfl rfl rfl (by kernel_rfl)) rfl rfl ?_
    refine At.oneNil ?_
    refine At.norm (hk_8 ?_)
    refine At.ret (At.thenRet (?_))
    refine At.sub (L' := [N36, R]) (.cons_cons _ (.cons _ (.cons_cons _ (.slnil)))) ?_
    refine At.retN (L1 := [N36]) rfl (.tmp rfl (.tmp rfl .nil)) rfl (.refl _) (.refl _) ?_
    have e : (It.mk false bs its).form = rlpHead 128 nb ++ bs := by rw [hf, if_neg (fun e => by have := hsm.1 e; omega), hn]
    exact .inl ⟨N36, a36, p36, by rw [e, List.length_append, hn], rfl, by rw [e, List.length_append, hn, u8s, List.map_append]; exact r36, hd⟩
theorem encode_its {N : Heaplet} {its : List It} {xs : List IV} {ab ai : Option Addr} {nb cb ni ci : Nat} {bs : List UInt8} (hI : RSl N 3 ai ni ci (cellsI xs)) (hX : ItsN N its xs) (lists : Nat) (q : Int) (hq : q = lists) (hl : lists ≤ 1024) (hlen : (It.mk true bs its).form.length ≤ 1099511627776)
    (ih : ∀ t ∈ its, ∀ (N : Heaplet) (x : IV) (lists : Nat) (q : Int), ItN N t x → q = lists → lists ≤ 1024 → t.form.length ≤ 1099511627776 → Fn Try.prog 115 #[.agg #[.bool x.l, .slice x.ab x.nb x.cb, .slice x.ai x.ni x.ci], .int .i64 q] [] [N] (EncP t lists)) :
    Fn Try.prog 115 #[.agg #[.bool true, .slice ab nb cb, .slice ai ni ci], .int .i64 q] [] [N] (EncP (.mk true bs its) lists) := by
  have hn : xs.length = ni := by have := hI.1; rw [length_cellsI] at this; omega
  have hn2 := hX.length
  have hcap := hI.cap63
  have hf := form_true bs its
  have hlf : (rlpHead 192 (It.forms its).length).length + (It.forms its).length ≤ 1099511627776 := by rw [hf, List.length_append] at hlen; exact hlen
  have hdep : (It.mk true bs its).depth = It.depths its + 1 := by simp [It.depth]
  refine Fn.enter (vs := [.agg #[.bool true, .slice ab nb cb, .slice ai ni ci], .int .i64 q]) Try.func115 rfl rfl rfl ?_
  intro E R hR
  have hI := hI.le (hR N (by simp))
  have hX := hX.le (hR N (by simp))
  change At _ _ E [R] _
  refine At.seq fun K1 hk_1 => ?_
  refine At.region ?_
  refine op_box (nxla rfl) rfl rfl rfl (fun N2 b2 B2 => ?_)
  refine op_assign (nxlf rfl) rfl rfl ?_
  refine op_assign (nxlf rfl) rfl rfl ?_
  refine At.opsNil ?_
  refine At.norm (hk_1 ?_)
  refine At.seq fun K2 hk_2 => ?_
  refine At.seq fun K3 hk_3 => ?_
  refine At.region ?_
  refine op_fieldAddr (nxlf rfl) fl92_0 rfl rfl ?_
  refine op_loadB (nxlf rfl) sc4 rfl B2 (by first | rfl) mem0 rfl ?_
  refine op_not (nxlf rfl) rfl rfl ?_
  refine At.opsNil ?_
  refine At.norm (hk_3 ?_)
  refine At.condF rfl ?_
  refine At.skip ?_
  refine At.norm (hk_2 ?_)
  refine At.seq fun K4 hk_4 => ?_
  refine At.seq fun K5 hk_5 => ?_
  refine At.region ?_
  refine op_move (nxlf rfl) rfl rfl ?_
  refine op_eql (nxlf rfl) rfl rfl rfl ?_
  refine At.opsNil ?_
  refine At.norm (hk_5 ?_)
  refine At.condP rfl (fun c38 => ?_) (fun c38 => ?_)
  · refine At.seq fun K6 hk_6 => ?_
    refine At.region ?_
    refine op_assign (nxlf rfl) rfl rfl ?_
    refine op_assign (nxlf rfl) rfl rfl ?_
    refine At.opsNil ?_
    refine At.norm (hk_6 ?_)
    refine At.ret (At.thenRet (?_))
    refine At.sub (L' := [R]) (.cons _ (.cons_cons _ (.slnil))) ?_
    refine At.retN (L1 := []) rfl (.tmp rfl (.tmp rfl .nil)) rfl (.refl _) (.refl _) ?_
    exact .inr ⟨rfl, rfl, by omega⟩
  · refine At.skip ?_
    refine At.norm (hk_4 ?_)
    refine At.seq fun K7 hk_7 => ?_
    refine At.region ?_
    refine op_assign (nxlf rfl) rfl rfl ?_
    refine At.opsNil ?_
    refine At.norm (hk_7 ?_)
    refine At.seq fun K8 hk_8 => ?_
    refine At.seq fun K9 hk_9 => ?_
    refine At.region ?_
    refine op_fieldAddr (nxlf rfl) fl92_2 rfl rfl ?_
    refine op_loadB (nxlf rfl) sc90 rfl B2 (by first | rfl) mem0 rfl ?_
    refine op_lenS (nxlf rfl) se90 rfl rfl ?_
    refine op_move (nxlf rfl) rfl rfl ?_
    refine At.opsNil ?_
    refine At.norm (hk_9 ?_)
    refine At.block ?_
    refine At.empty ?_
    refine At.perm sel2 ?_
    refine At.perm sel1 ?_
    refine At.perm sel2 ?_
    refine At.loop (fun fr_ hp_ ms_ => ∃ (k np : Nat) (ap : Option Addr) (cp : Nat) (Np : Heaplet), fr_ = [(1, .int .i64 q), (2, .pointer (some ⟨b2, 0, none⟩)), (6, .slice ap np cp), (40, .slice ai ni ci), (41, .int .i64 (ni : Int)), (42, .int .i64 (k : Int))] ∧ hp_ = [N2, Np, R] ∧ ni - k = ms_ ∧ (k ≤ ni) ∧ (np = (It.forms (its.take k)).length) ∧ (Row Np 5 1 ap np cp (u8s (It.forms (its.take k)))) ∧ (∀ t ∈ its.take k, lists + 1 + t.depth ≤ 1024)) ?_ (.refl _) ⟨0, 0, none, 0, nilH, rfl, rfl, rfl, by omega, by simp [It.forms], by simpa [It.forms, u8s] using Row.nil nilH 5 1, by simp⟩ ?_
    · exact .cons (by first | exact lkI rfl (by omega) | rfl) (.cons (by first | exact lkI rfl (by omega) | rfl) (.cons (by first | exact lkI rfl (by omega) | rfl) (.cons (by first | exact lkI rfl (by omega) | rfl) (.cons (by first | exact lkI rfl (by omega) | rfl) (.cons (by first | exact lkI rfl (by omega) | rfl) .nil)))))
    rintro _ _ _ ⟨k, np, ap, cp, Np, rfl, rfl, rfl, hk, hnp, rp, hd⟩
    have sp := rp.rsl
    have hle := forms_take_le its k
    refine At.seq fun K10 hk_10 => ?_
    refine At.region ?_
    refine op_lss (nxlf rfl) rfl rfl rfl ?_
    refine At.opsNil ?_
    refine At.norm (hk_10 ?_)
    refine At.seq fun K11 hk_11 => ?_
    refine At.condP rfl (fun c43 => ?_) (fun c43 => ?_)
    · have hlt : k < its.length := by omega
      obtain ⟨x, hx, hi⟩ := hX.get (List.getElem?_eq_getElem hlt)
      have hts := forms_take_succ (List.getElem?_eq_getElem hlt)
      have hfe := form_le (List.getElem_mem hlt)
      have hle2 := forms_take_le its (k + 1)
      have hsum : np + (its[k]).form.length ≤ (It.forms its).length := by rw [hts, List.length_append] at hle2; omega
      refine At.skip ?_
      refine At.norm (hk_11 ?_)
      refine At.seq fun K12 hk_12 => ?_
      refine At.block ?_
      refine At.seq fun K13 hk_13 => ?_
      refine At.region ?_
      refine op_idxE (nxlf rfl) se90 rfl rfl (by assumption) (show _ = (((k : Nat)) : Int) from by omega) (by omega) rfl ?_
      refine op_loadAggE (nxlf rfl) ag92 rfl (by assumption) (by exact cells_at hx) (by rfl) (by omega) (by first | exact mem0 | exact mem1 | exact mem2 | exact mem3 | exact mem4 | exact mem5 | exact mem6 | exact mem7 | exact mem8 | exact mem9) rfl ?_
      refine op_alloc (nxla rfl) ze92 rfl (fun N8 b8 B8 => ?_)
      change Blk N8 b8 _ [.bool false, .slice none 0 0, .slice none 0 0] at B8
      refine op_store (nxl rfl) sz92 rfl rfl rfl rfl rfl B8 (by simp) sel0 (fun N8 B8 => ?_)
      simp only [setL, List.set] at B8
      refine At.opsNil ?_
      refine At.norm (hk_13 ?_)
      refine At.seq fun K14 hk_14 => ?_
      refine At.region ?_
      refine op_loadAggB (ds := [_, _, _]) (nxlf rfl) ag92 rfl B8 rfl rfl mem0 rfl ?_
      refine op_move (nxlf rfl) rfl rfl ?_
      refine op_addI (nxlf rfl) rfl rfl (by omega) (by omega) rfl ?_
      refine op_callA (nxla rfl) (.cons rfl (.cons rfl .nil)) (ih its[k] (List.getElem_mem hlt) R x (lists + 1) (q + 1) hi (by omega) (by omega) (by omega)) Try.func115 rfl rfl (by simp) rfl ?_
      rintro v50 L50 (⟨M50, a50, p50, rfl, rfl, r50, hd50⟩ | ⟨rfl, rfl, hd50⟩)
      · change At _ _ _ [M50, N8, N2, Np, R] _
        have s50 := r50.rsl
        refine op_move (nxlf rfl) rfl rfl ?_
        refine op_extract (nxlf rfl) rfl rfl rfl ?_
        refine op_extract (nxlf rfl) rfl rfl rfl ?_
        refine op_assign (nxlf rfl) rfl rfl ?_
        refine op_assign (nxlf rfl) rfl rfl ?_
        refine At.opsNil ?_
        refine At.norm (hk_14 ?_)
        refine At.seq fun K15 hk_15 => ?_
        refine At.seq fun K16 hk_16 => ?_
        refine At.region ?_
        refine op_move (nxlf rfl) rfl rfl ?_
        refine op_neq (nxlf rfl) rfl rfl rfl ?_
        refine At.opsNil ?_
        refine At.norm (hk_16 ?_)
        refine At.condF rfl ?_
        refine At.skip ?_
        refine At.norm (hk_15 ?_)
        refine At.region ?_
        refine op_move (nxlf rfl) rfl rfl ?_
        refine op_move (nxlf rfl) rfl rfl ?_
        refine op_append (nxl rfl) Try.underlying27 Try.underlying27 te5 rfl rfl rp (by assumption) (by first | exact mem0 | exact mem1 | exact mem2 | exact mem3 | exact mem4 | exact mem5 | exact mem6 | exact mem7 | exact mem8 | exact mem9) (by first | exact one_u8s _ | exact one_u64s _ | exact one_u32s _ | (intro u hu; simp at hu; subst hu; rfl)) (by omega) (by omega) sel3 rfl (fun N58 a58 p58 r58 => ?_)
        have s58 := r58.rsl
        refine op_assign (nxlf rfl) rfl rfl ?_
        refine At.opsNil ?_
        refine At.inNorm ?_
        refine At.norm (hk_12 ?_)
        refine At.region ?_
        refine op_addI (nxlf rfl) rfl rfl (by omega) (by omega) rfl ?_
        refine op_move (nxlf rfl) rfl rfl ?_
        refine At.opsNil ?_
        refine At.norm ?_
        refine At.sub (L' := [N58, N2, R]) (.cons_cons _ (.cons _ (.cons _ (.cons_cons _ (.cons_cons _ (.slnil)))))) ?_
        refine At.perm sel2 ?_
        refine At.perm sel1 ?_
        refine At.perm sel2 ?_
        refine At.back ?_ (.refl _) ⟨k + 1, np + (its[k]).form.length, a58, p58, N58, rfl, rfl, rfl, by omega, by rw [hts, List.length_append, hnp], by rw [hts, u8s, List.map_append]; exact r58, fun t ht => by rw [List.take_succ_eq_append_getElem hlt, List.mem_append] at ht; rcases ht with ht | ht; exact hd t ht; rw [List.mem_singleton.1 ht]; exact hd50⟩ ?_
        · exact .cons (by first | exact lkI rfl (by omega) | rfl) (.cons (by first | exact lkI rfl (by omega) | rfl) (.cons (by first | exact lkI rfl (by omega) | rfl) (.cons (by first | exact lkI rfl (by omega) | rfl) (.cons (by first | exact lkI rfl (by omega) | rfl) (.cons (by first | exact lkI rfl (by omega) | rfl) .nil)))))
        · omega
      · change At _ _ _ [N8, N2, Np, R] _
        refine op_move (nxlf rfl) rfl rfl ?_
        refine op_extract (nxlf rfl) rfl rfl rfl ?_
        refine op_extract (nxlf rfl) rfl rfl rfl ?_
        refine op_assign (nxlf rfl) rfl rfl ?_
        refine op_assign (nxlf rfl) rfl rfl ?_
        refine At.opsNil ?_
        refine At.norm (hk_14 ?_)
        refine At.seq fun K17 hk_17 => ?_
        refine At.seq fun K18 hk_18 => ?_
        refine At.region ?_
        refine op_move (nxlf rfl) rfl rfl ?_
        refine op_neq (nxlf rfl) rfl rfl rfl ?_
        refine At.opsNil ?_
        refine At.norm (hk_18 ?_)
        refine At.condT rfl ?_
        refine At.seq fun K19 hk_19 => ?_
        refine At.region ?_
        refine op_move (nxlf rfl) rfl rfl ?_
        refine op_assign (nxlf rfl) rfl rfl ?_
        refine op_assign (nxlf rfl) rfl rfl ?_
        refine At.opsNil ?_
        refine At.norm (hk_19 ?_)
        refine At.ret (At.thenRet (At.inRet (At.thenRet (At.thenRet (At.inRet (At.thenRet (?_)))))))
        refine At.sub (L' := [R]) (.cons _ (.cons _ (.cons _ (.cons_cons _ (.slnil))))) ?_
        refine At.retN (L1 := []) rfl (.tmp rfl (.tmp rfl .nil)) rfl (.refl _) (.refl _) ?_
        refine .inr ⟨rfl, rfl, fun h => hd50 ?_⟩
        have := depths_le.1 (Nat.le_refl _) _ (List.getElem_mem hlt)
        omega
    · refine At.exit (At.thenExit (At.thenExit (At.inHit ?_)))
      refine At.norm (hk_8 ?_)
      refine At.seq fun K20 hk_20 => ?_
      refine At.region ?_
      refine op_move (nxlf rfl) rfl rfl ?_
      refine op_lenS (nxlf rfl) se27 rfl rfl ?_
      refine op_callA (nxla rfl) (.cons rfl (.cons rfl .nil)) (head_f 192 np (by omega) (by omega)) Try.func131 rfl rfl (by simp) rfl ?_
      rintro v62 L62 ⟨M62, a62, p62, rfl, rfl, r62⟩
      change At _ _ _ [M62, N2, Np, R] _
      refine op_move (nxlf rfl) rfl rfl ?_
      have h9 := rlpHead_le 192 np (by omega)
      refine op_append (nxl rfl) Try.underlying27 Try.underlying27 te5 rfl rfl r62 (by assumption) (by first | exact mem0 | exact mem1 | exact mem2 | exact mem3 | exact mem4 | exact mem5 | exact mem6 | exact mem7 | exact mem8 | exact mem9) (by first | exact one_u8s _ | exact one_u64s _ | exact one_u32s _ | (intro u hu; simp at hu; subst hu; rfl)) (by omega) (by omega) sel0 rfl (fun N64 a64 p64 r64 => ?_)
      have s64 := r64.rsl
      refine op_assign (nxlf rfl) rfl rfl ?_
      refine op_assign (nxlf rfl) rfl rfl ?_
      refine At.opsNil ?_
      refine At.norm (hk_20 ?_)
      refine At.ret (?_)
      refine At.sub (L' := [N64, R]) (.cons_cons _ (.cons _ (.cons _ (.cons_cons _ (.slnil))))) ?_
      refine At.retN (L1 := [N64]) rfl (.tmp rfl (.tmp rfl .nil)) rfl (.refl _) (.refl _) ?_
      obtain rfl : k = its.length := by omega
      rw [List.take_length] at hnp hd r64
      subst hnp
      refine .inl ⟨N64, a64, p64, by rw [hf, List.length_append], rfl, by rw [hf, List.length_append, u8s, List.map_append]; exact r64, ?_⟩
      rw [hdep]
      by_cases hz : its = []
      · subst hz; simp [It.depths]; omega
      · have : It.depths its ≤ 1024 - lists - 1 := depths_le.2 fun t ht => by have := hd t ht; omega
        obtain ⟨t, ht⟩ := List.exists_mem_of_ne_nil _ hz
        have := hd t ht
        omega
theorem encode_f (t : It) : ∀ (N : Heaplet) (x : IV) (lists : Nat) (q : Int), ItN N t x → q = lists → lists ≤ 1024 → t.form.length ≤ 1099511627776 → Fn Try.prog 115 #[.agg #[.bool x.l, .slice x.ab x.nb x.cb, .slice x.ai x.ni x.ci], .int .i64 q] [] [N] (EncP t lists) := by
  induction t using It.ind_it with | h l bs its ih => ?_
  intro N x lists q h hq hl hlen
  simp only [ItN] at h
  obtain ⟨rfl, h1, xs, h2, h3⟩ := h
  cases hb : x.l with
  | false => rw [hb] at hlen; exact encode_bs h1 lists q hl hlen
  | true => rw [hb] at hlen; exact encode_its h2 h3 lists q hq hl hlen ih
theorem Encode_f {N : Heaplet} {t : It} {x : IV} (h : ItN N t x) (hlen : t.form.length ≤ 1099511627776) : Fn Try.prog 86 #[.agg #[.bool x.l, .slice x.ab x.nb x.cb, .slice x.ai x.ni x.ci]] [] [N] (EncP t 0) := by
  refine Fn.enter (vs := [.agg #[.bool x.l, .slice x.ab x.nb x.cb, .slice x.ai x.ni x.ci]]) Try.func86 rfl rfl rfl ?_
  intro E R hR
  have h := h.le (hR N (by simp))
  change At _ _ E [R] _
  refine At.seq fun K1 hk_1 => ?_
  refine At.region ?_
  refine op_box (nxla rfl) rfl rfl rfl (fun N1 b1 B1 => ?_)
  refine op_assign (nxlf rfl) rfl rfl ?_
  refine op_assign (nxlf rfl) rfl rfl ?_
  refine At.opsNil ?_
  refine At.norm (hk_1 ?_)
  refine At.seq fun K2 hk_2 => ?_
  refine At.region ?_
  refine op_loadAggB (ds := [_, _, _]) (nxlf rfl) ag92 rfl B1 rfl rfl mem0 rfl ?_
  refine op_callA (nxla rfl) (.cons rfl (.cons rfl .nil)) (encode_f t R x 0 0 h rfl (by omega) hlen) Try.func115 rfl rfl (by simp) rfl ?_
  rintro v5 L5 (⟨M5, a5, p5, rfl, rfl, r5, hd5⟩ | ⟨rfl, rfl, hd5⟩)
  · change At _ _ _ [M5, N1, R] _
    refine op_extract (nxlf rfl) rfl rfl rfl ?_
    refine op_extract (nxlf rfl) rfl rfl rfl ?_
    refine op_assign (nxlf rfl) rfl rfl ?_
    refine op_assign (nxlf rfl) rfl rfl ?_
    refine At.opsNil ?_
    refine At.norm (hk_2 ?_)
    refine At.ret (?_)
    refine At.sub (L' := [M5, R]) (.cons_cons _ (.cons _ (.cons_cons _ (.slnil)))) ?_
    refine At.retN (L1 := [M5]) rfl (.tmp rfl (.tmp rfl .nil)) rfl (.refl _) (.refl _) ?_
    exact .inl ⟨M5, a5, p5, rfl, rfl, r5, hd5⟩
  · change At _ _ _ [N1, R] _
    refine op_extract (nxlf rfl) rfl rfl rfl ?_
    refine op_extract (nxlf rfl) rfl rfl rfl ?_
    refine op_assign (nxlf rfl) rfl rfl ?_
    refine op_assign (nxlf rfl) rfl rfl ?_
    refine At.opsNil ?_
    refine At.norm (hk_2 ?_)
    refine At.ret (?_)
    refine At.sub (L' := [R]) (.cons _ (.cons_cons _ (.slnil))) ?_
    refine At.retN (L1 := []) rfl (.tmp rfl (.tmp rfl .nil)) rfl (.refl _) (.refl _) ?_
    exact .inr ⟨rfl, rfl, hd5⟩
end Go.Proofs.Ytljacjjeinmfnaa
/- rlp.Decode; quarrylaw05.wakes holds. No condition but that bytes are not longer than a machine holds. -/
namespace Go.Proofs.Ytljacjjeinmfnaa
set_option linter.unusedVariables false
set_option linter.unusedSimpArgs false
open Go Go.RowKit
/-- The item that bytes tell, or the error's number. -/
def decodeF (b : List UInt8) : Except Nat It := match decF 1024 b with
  | .error e => .error e
  | .ok (t, q) => if q.length = 0 then .ok t else .error 2
def DecodeP (r : Except Nat It) (v : Value) (L : List Heaplet) : Prop :=
  (∃ t M, ∃ x : IV, r = .ok t ∧ v = .tuple #[.agg #[.bool x.l, .slice x.ab x.nb x.cb, .slice x.ai x.ni x.ci], .int .i64 0] ∧ L = [M] ∧ ItN M t x) ∨
  (∃ e : Nat, r = .error e ∧ v = .tuple #[.agg #[.bool false, .slice none 0 0, .slice none 0 0], .int .i64 (e : Int)] ∧ L = [] ∧ e ≠ 0)
end Go.Proofs.Ytljacjjeinmfnaa
/- quarrylaw05.wakes holds. No condition. -/
namespace Go.Proofs.Ytljacjjeinmfnaa
set_option linter.unusedVariables false
set_option linter.unusedSimpArgs false
open Go Go.RowKit
def wakeT : It := .mk true [] [.mk true [] [], .mk false [97] []]
end Go.Proofs.Ytljacjjeinmfnaa
/- quarryref05's head, Depth, form, Encode: the document's forms of items. No condition but that the form is not longer than a machine holds. -/
namespace Go.Proofs.Ytljacjjeinmfnaa
set_option linter.unusedVariables false
set_option linter.unusedSimpArgs false
open Go Go.RowKit
set_option maxRecDepth 100000
theorem rhead_f (b n : Nat) (hb : b ≤ 192) (hn : n ≤ 1099511627776) :
    Fn Try.prog 116 #[.int .i64 (b : Int), .int .i64 (n : Int)] [] [] (fun v L => ∃ M a cap, v = .slice a (rlpHead b n).length cap ∧ L = [M] ∧ Row M 5 1 a (rlpHead b n).length cap (u8s (rlpHead b n))) := by
  have h8 := bytesOf_le (n := n) (k := 8) (by omega)
  have hn64 : (UInt64.ofNat n).toNat = n := by rw [UInt64.toNat_ofNat']; exact Nat.mod_eq_of_lt (by omega)
  refine Fn.enter (vs := [.int .i64 (b : Int), .int .i64 (n : Int)]) Try.func116 rfl rfl rfl ?_
  intro E R hR
  change At _ _ E [R] _
  refine At.seq fun K1 hk_1 => ?_
  refine At.region ?_
  refine op_assign (nxlf rfl) rfl rfl ?_
  refine At.opsNil ?_
  refine At.norm (hk_1 ?_)
  refine At.seq fun K2 hk_2 => ?_
  refine At.seq fun K3 hk_3 => ?_
  refine At.region ?_
  refine op_move (nxlf rfl) rfl rfl ?_
  refine op_leq (nxlf rfl) rfl rfl rfl ?_
  refine At.opsNil ?_
  refine At.norm (hk_3 ?_)
  refine At.condP rfl (fun c7 => ?_) (fun c7 => ?_)
  · refine At.seq fun K4 hk_4 => ?_
    refine At.region ?_
    refine op_move (nxlf rfl) rfl rfl ?_
    refine op_move (nxlf rfl) rfl rfl ?_
    refine op_addI (nxlf rfl) rfl rfl (by omega) (by omega) rfl ?_
    refine op_conv8 (nxlf rfl) (und_some Try.underlying3) Try.underlying5 rfl (show _ = (((b + n : Nat)) : Int) from by omega) rfl ?_
    refine op_lit (nxla rfl) Try.underlying27 ze5 sz5 (.cons rfl .nil) rfl rfl (by simp [Value.cells]) rfl rfl rfl (fun N12 a12 r12 => ?_)
    simp only [flatV, List.flatMap_cons, List.flatMap_nil, Value.cells, List.append_nil, List.cons_append, List.nil_append] at r12
    have s12 := r12.rsl
    refine op_assign (nxlf rfl) rfl rfl ?_
    refine At.opsNil ?_
    refine At.norm (hk_4 ?_)
    refine At.ret (At.thenRet (?_))
    refine At.ret1 (L1 := [N12]) rfl (.tmp rfl .nil) (.refl _) (.refl _) ?_
    have e : rlpHead b n = [UInt8.ofNat (b + n)] := by rw [rlpHead, if_pos (by omega)]
    rw [e]
    exact ⟨N12, a12, 1, rfl, rfl, r12⟩
  · refine At.skip ?_
    refine At.norm (hk_2 ?_)
    refine At.seq fun K5 hk_5 => ?_
    refine At.region ?_
    refine op_move (nxlf rfl) rfl rfl ?_
    refine op_conv64 (nxlf rfl) (und_some Try.underlying3) Try.underlying24 rfl (show _ = (((n : Nat)) : Int) from by omega) rfl ?_
    refine op_callA (nxla rfl) (.cons rfl .nil) (Of32_f (UInt64.ofNat n)) Try.func132 rfl rfl (by simp) rfl ?_
    rintro v15 L15 ⟨M15, a15, p15, rfl, rfl, s15⟩
    change At _ _ _ [M15, R] _
    have hl15 := s15.len32
    have hdl : (digsOf (UInt64.ofNat n).toNat).length ≤ 2 := by rw [length_digsOf]; exact digLen_le.2 (UInt64.toNat_lt _)
    refine op_callA (nxla rfl) (.cons rfl .nil) (Bytes32_f s15 (by omega)) Try.func119 rfl rfl (by simp) rfl ?_
    rintro v16 L16 ⟨M16, a16, p16, rfl, rfl, r16⟩
    change At _ _ _ [M16, M15, R] _
    rw [v32_digsOf, hn64] at r16 ⊢
    have s16 := r16.rsl
    refine op_assign (nxlf rfl) rfl rfl ?_
    refine At.opsNil ?_
    refine At.norm (hk_5 ?_)
    refine At.seq fun K6 hk_6 => ?_
    refine At.region ?_
    refine op_move (nxlf rfl) rfl rfl ?_
    refine op_addI (nxlf rfl) rfl rfl (by omega) (by omega) rfl ?_
    refine op_move (nxlf rfl) rfl rfl ?_
    refine op_lenS (nxlf rfl) se27 rfl rfl ?_
    refine op_addI (nxlf rfl) rfl rfl (by omega) (by omega) rfl ?_
    refine op_conv8 (nxlf rfl) (und_some Try.underlying3) Try.underlying5 rfl (show _ = (((b + 55 + (bytesOf n).length : Nat)) : Int) from by omega) rfl ?_
    refine op_lit (nxla rfl) Try.underlying27 ze5 sz5 (.cons rfl .nil) rfl rfl (by simp [Value.cells]) rfl rfl rfl (fun N23 a23 r23 => ?_)
    simp only [flatV, List.flatMap_cons, List.flatMap_nil, Value.cells, List.append_nil, List.cons_append, List.nil_append] at r23
    have s23 := r23.rsl
    refine op_move (nxlf rfl) rfl rfl ?_
    refine op_append (nxl rfl) Try.underlying27 Try.underlying27 te5 rfl rfl r23 (by assumption) (by first | exact mem0 | exact mem1 | exact mem2 | exact mem3 | exact mem4 | exact mem5 | exact mem6 | exact mem7 | exact mem8 | exact mem9) (by first | exact one_u8s _ | exact one_u64s _ | exact one_u32s _ | (intro u hu; simp at hu; subst hu; rfl)) (by omega) (by omega) sel0 rfl (fun N25 a25 p25 r25 => ?_)
    have s25 := r25.rsl
    refine op_assign (nxlf rfl) rfl rfl ?_
    refine At.opsNil ?_
    refine At.norm (hk_6 ?_)
    refine At.ret (?_)
    refine At.sub (L' := [N25, R]) (.cons_cons _ (.cons _ (.cons _ (.cons_cons _ (.slnil))))) ?_
    refine At.ret1 (L1 := [N25]) rfl (.tmp rfl .nil) (.refl _) (.refl _) ?_
    have e : rlpHead b n = UInt8.ofNat (b + 55 + (bytesOf n).length) :: bytesOf n := by rw [rlpHead, if_neg (by omega)]
    rw [e, List.length_cons, Nat.add_comm (bytesOf n).length 1]
    exact ⟨N25, a25, p25, rfl, rfl, r25⟩
theorem form_f (t : It) : ∀ (N : Heaplet) (x : IV), ItN N t x → t.form.length ≤ 1099511627776 → Fn Try.prog 88 #[.agg #[.bool x.l, .slice x.ab x.nb x.cb, .slice x.ai x.ni x.ci]] [] [N] (fun v L => ∃ M a cap, v = .slice a t.form.length cap ∧ L = [M] ∧ Row M 5 1 a t.form.length cap (u8s t.form)) := by
  induction t using It.ind_it with | h l bs its ih => ?_
  intro N x h hlen
  simp only [ItN] at h
  obtain ⟨rfl, h1, xs, hI, hX⟩ := h
  have hn : xs.length = x.ni := by have := hI.1; rw [length_cellsI] at this; omega
  have hn2 := hX.length
  have hcap := hI.cap63
  cases hb : x.l with
  | false =>
    rw [hb] at hlen
    have hnb := h1.len8
    have hcb := h1.cap63
    have hf := form_false bs its
    have hsm := @small_iffI bs
    have hub : small bs ≠ true → (rlpHead 128 x.nb).length + x.nb ≤ 1099511627776 := fun e => by rw [hf, if_neg e, List.length_append, hnb] at hlen; exact hlen
    refine Fn.enter (vs := [.agg #[.bool false, .slice x.ab x.nb x.cb, .slice x.ai x.ni x.ci]]) Try.func88 rfl rfl rfl ?_
    intro E R hR
    have h1 := h1.le (hR N (by simp))
    change At _ _ E [R] _
    refine At.seq fun K1 hk_1 => ?_
    refine At.region ?_
    refine op_box (nxla rfl) rfl rfl rfl (fun N1 b1 B1 => ?_)
    refine op_assign (nxlf rfl) rfl rfl ?_
    refine At.opsNil ?_
    refine At.norm (hk_1 ?_)
    refine At.seq fun K2 hk_2 => ?_
    refine At.seq fun K3 hk_3 => ?_
    refine At.region ?_
    refine op_fieldAddr (nxlf rfl) fl92_0 rfl rfl ?_
    refine op_loadB (nxlf rfl) sc4 rfl B1 (by first | rfl) mem0 rfl ?_
    refine op_not (nxlf rfl) rfl rfl ?_
    refine At.opsNil ?_
    refine At.norm (hk_3 ?_)
    refine At.condT rfl ?_
    refine At.seq fun K4 hk_4 => ?_
    refine At.seq fun K5 hk_5 => ?_
    refine At.region ?_
    refine op_fieldAddr (nxlf rfl) fl92_1 rfl rfl ?_
    refine op_loadB (nxlf rfl) sc27 rfl B1 (by first | rfl) mem0 rfl ?_
    refine op_lenS (nxlf rfl) se27 rfl rfl ?_
    refine op_eql (nxlf rfl) rfl rfl rfl ?_
    refine op_move (nxlf rfl) rfl rfl ?_
    refine At.partP (d := 12) rfl (fun g12 => ?_) (fun g12 => ?_)
    · refine op_fieldAddr (nxgf rfl rfl rfl rfl) fl92_1 rfl rfl ?_
      refine op_loadB (nxgf rfl rfl rfl rfl) sc27 rfl B1 (by first | rfl) mem0 rfl ?_
      refine op_idx1 (nxgf rfl rfl rfl rfl) se27 rfl rfl (by assumption) (show _ = (((0 : Nat)) : Int) from by omega) (by omega) rfl ?_
      refine op_loadE (nxgf rfl rfl rfl rfl) sc5 rfl (by assumption) (by first | exact get8 (by omega) | exact get64 (by omega) | exact get32 (by omega)) (by first | exact mem0 | exact mem1 | exact mem2 | exact mem3 | exact mem4 | exact mem5 | exact mem6 | exact mem7 | exact mem8 | exact mem9) rfl ?_
      refine op_lss (nxgf rfl rfl rfl rfl) rfl rfl rfl ?_
      refine op_pickT (nxlf rfl) rfl rfl rfl ?_
      refine At.opsNil ?_
      refine At.norm (hk_5 ?_)
      refine At.condP rfl (fun c18 => ?_) (fun c18 => ?_)
      · refine At.seq fun K6 hk_6 => ?_
        refine At.region ?_
        refine op_lit (nxla rfl) Try.underlying27 ze5 sz5 .nil rfl rfl (by simp [Value.cells]) rfl rfl rfl (fun N19 a19 r19 => ?_)
        simp only [flatV, List.flatMap_cons, List.flatMap_nil, Value.cells, List.append_nil, List.cons_append, List.nil_append] at r19
        have s19 := r19.rsl
        refine op_fieldAddr (nxlf rfl) fl92_1 rfl rfl ?_
        refine op_loadB (nxlf rfl) sc27 rfl B1 (by first | rfl) mem1 rfl ?_
        refine op_append (nxl rfl) Try.underlying27 Try.underlying27 te5 rfl rfl r19 (by assumption) (by first | exact mem0 | exact mem1 | exact mem2 | exact mem3 | exact mem4 | exact mem5 | exact mem6 | exact mem7 | exact mem8 | exact mem9) (by first | exact one_u8s _ | exact one_u64s _ | exact one_u32s _ | (intro u hu; simp at hu; subst hu; rfl)) (by omega) (by omega) sel0 rfl (fun N22 a22 p22 r22 => ?_)
        have s22 := r22.rsl
        refine op_assign (nxlf rfl) rfl rfl ?_
        refine At.opsNil ?_
        refine At.norm (hk_6 ?_)
        refine At.ret (At.thenRet (At.thenRet (?_)))
        refine At.sub (L' := [N22, R]) (.cons_cons _ (.cons _ (.cons_cons _ (.slnil)))) ?_
        refine At.ret1 (L1 := [N22]) rfl (.tmp rfl .nil) (.refl _) (.refl _) ?_
        have e : (It.mk false bs its).form = bs := by rw [hf, if_pos (hsm.2 ⟨by omega, by omega⟩)]
        rw [List.nil_append, Nat.zero_add] at r22
        exact ⟨N22, a22, p22, by rw [e, hnb, Nat.zero_add], rfl, by rw [e, hnb]; exact r22⟩
      · refine At.skip ?_
        refine At.norm (hk_4 ?_)
        refine At.seq fun K7 hk_7 => ?_
        refine At.drawn [6] [0,1,2,4,5,3,6,7] (by kernel_rfl) (by kernel_rfl) ?_
        refine op_fieldAddr (nxof rfl rfl rfl (by kernel_rfl)) fl92_1 rfl rfl ?_
        refine op_loadB (nxof rfl rfl rfl (by kernel_rfl)) sc27 rfl B1 (by first | rfl) mem0 rfl ?_
        refine op_lenS (nxof rfl rfl rfl (by kernel_rfl)) se27 rfl rfl ?_
        refine op_fieldAddr (nxof rfl rfl rfl (by kernel_rfl)) fl92_1 rfl rfl ?_
        refine op_loadB (nxof rfl rfl rfl (by kernel_rfl)) sc27 rfl B1 (by first | rfl) mem0 rfl ?_
        have hub' := hub (fun e => by have := hsm.1 e; omega)
        refine op_callA (nxoa rfl rfl rfl) (.cons rfl (.cons rfl .nil)) (rhead_f 128 x.nb (by omega) (by omega)) Try.func116 rfl rfl (by simp) rfl ?_
        rintro v26 L26 ⟨M26, a26, p26, rfl, rfl, r26⟩
        change At _ _ _ [M26, N1, R] _
        refine op_append (nxos rfl rfl rfl rfl) Try.underlying27 Try.underlying27 te5 rfl rfl r26 (by assumption) (by first | exact mem0 | exact mem1 | exact mem2 | exact mem3 | exact mem4 | exact mem5 | exact mem6 | exact mem7 | exact mem8 | exact mem9) (by first | exact one_u8s _ | exact one_u64s _ | exact one_u32s _ | (intro u hu; simp at hu; subst hu; rfl)) (by omega) (by omega) sel0 rfl (fun N29 a29 p29 r29 => ?_)
        have s29 := r29.rsl
        refine op_assign (nxof rfl rfl rfl (by kernel_rfl)) rfl rfl ?_
        refine At.oneNil ?_
        refine At.norm (hk_7 ?_)
        refine At.ret (At.thenRet (?_))
        refine At.sub (L' := [N29, R]) (.cons_cons _ (.cons _ (.cons_cons _ (.slnil)))) ?_
        refine At.ret1 (L1 := [N29]) rfl (.tmp rfl .nil) (.refl _) (.refl _) ?_
        have e : (It.mk false bs its).form = rlpHead 128 x.nb ++ bs := by rw [hf, if_neg (fun e => by have := hsm.1 e; omega), hnb]
        exact ⟨N29, a29, p29, by rw [e, List.length_append, hnb], rfl, by rw [e, List.length_append, hnb, u8s, List.map_append]; exact r29⟩
    · refine op_skip rfl rfl rfl rfl rfl rfl rfl ?_
      refine op_skip rfl rfl rfl rfl rfl rfl rfl ?_
      refine op_skip rfl rfl rfl rfl rfl rfl rfl ?_
      refine op_skip rfl rfl rfl rfl rfl rfl rfl ?_
      refine op_skip rfl rfl rfl rfl rfl rfl rfl ?_
      refine op_pickF (nxlf rfl) rfl rfl rfl ?_
      refine At.opsNil ?_
      refine At.norm (hk_5 ?_)
      refine At.condF rfl ?_
      refine At.skip ?_
      refine At.norm (hk_4 ?_)
      refine At.seq fun K8 hk_8 => ?_
      refine At.drawn [6] [0,1,2,4,5,3,6,7] (by kernel_rfl) (by kernel_rfl) ?_
      refine op_fieldAddr (nxof rfl rfl rfl (by kernel_rfl)) fl92_1 rfl rfl ?_
      refine op_loadB (nxof rfl rfl rfl (by kernel_rfl)) sc27 rfl B1 (by first | rfl) mem0 rfl ?_
      refine op_lenS (nxof rfl rfl rfl (by kernel_rfl)) se27 rfl rfl ?_
      refine op_fieldAddr (nxof rfl rfl rfl (by kernel_rfl)) fl92_1 rfl rfl ?_
      refine op_loadB (nxof rfl rfl rfl (by kernel_rfl)) sc27 rfl B1 (by first | rfl) mem0 rfl ?_
      have hub' := hub (fun e => by have := hsm.1 e; omega)
      refine op_callA (nxoa rfl rfl rfl) (.cons rfl (.cons rfl .nil)) (rhead_f 128 x.nb (by omega) (by omega)) Try.func116 rfl rfl (by simp) rfl ?_
      rintro v26 L26 ⟨M26, a26, p26, rfl, rfl, r26⟩
      change At _ _ _ [M26, N1, R] _
      refine op_append (nxos rfl rfl rfl rfl) Try.underlying27 Try.underlying27 te5 rfl rfl r26 (by assumption) (by first | exact mem0 | exact mem1 | exact mem2 | exact mem3 | exact mem4 | exact mem5 | exact mem6 | exact mem7 | exact mem8 | exact mem9) (by first | exact one_u8s _ | exact one_u64s _ | exact one_u32s _ | (intro u hu; simp at hu; subst hu; rfl)) (by omega) (by omega) sel0 rfl (fun N29 a29 p29 r29 => ?_)
      have s29 := r29.rsl
      refine op_assign (nxof rfl rfl rfl (by kernel_rfl)) rfl rfl ?_
      refine At.oneNil ?_
      refine At.norm (hk_8 ?_)
      refine At.ret (At.thenRet (?_))
      refine At.sub (L' := [N29, R]) (.cons_cons _ (.cons _ (.cons_cons _ (.slnil)))) ?_
      refine At.ret1 (L1 := [N29]) rfl (.tmp rfl .nil) (.refl _) (.refl _) ?_
      have e : (It.mk false bs its).form = rlpHead 128 x.nb ++ bs := by rw [hf, if_neg (fun e => by have := hsm.1 e; omega), hnb]
      exact ⟨N29, a29, p29, by rw [e, List.length_append, hnb], rfl, by rw [e, List.length_append, hnb, u8s, List.map_append]; exact r29⟩
  | true =>
    rw [hb] at hlen
    have hf := form_true bs its
    have hlf : (rlpHead 192 (It.forms its).length).length + (It.forms its).length ≤ 1099511627776 := by rw [hf, List.length_append] at hlen; exact hlen
    refine Fn.enter (vs := [.agg #[.bool true, .slice x.ab x.nb x.cb, .slice x.ai x.ni x.ci]]) Try.func88 rfl rfl rfl ?_
    intro E R hR
    have hI := hI.le (hR N (by simp))
    have hX := hX.le (hR N (by simp))
    change At _ _ E [R] _
    refine At.seq fun K1 hk_1 => ?_
    refine At.region ?_
    refine op_box (nxla rfl) rfl rfl rfl (fun N1 b1 B1 => ?_)
    refine op_assign (nxlf rfl) rfl rfl ?_
    refine At.opsNil ?_
    refine At.norm (hk_1 ?_)
    refine At.seq fun K2 hk_2 => ?_
    refine At.seq fun K3 hk_3 => ?_
    refine At.region ?_
    refine op_fieldAddr (nxlf rfl) fl92_0 rfl rfl ?_
    refine op_loadB (nxlf rfl) sc4 rfl B1 (by first | rfl) mem0 rfl ?_
    refine op_not (nxlf rfl) rfl rfl ?_
    refine At.opsNil ?_
    refine At.norm (hk_3 ?_)
    refine At.condF rfl ?_
    refine At.skip ?_
    refine At.norm (hk_2 ?_)
    refine At.seq fun K4 hk_4 => ?_
    refine At.region ?_
    refine op_assign (nxlf rfl) rfl rfl ?_
    refine At.opsNil ?_
    refine At.norm (hk_4 ?_)
    refine At.seq fun K5 hk_5 => ?_
    refine At.seq fun K6 hk_6 => ?_
    refine At.region ?_
    refine op_assign (nxlf rfl) rfl rfl ?_
    refine At.opsNil ?_
    refine At.norm (hk_6 ?_)
    refine At.block ?_
    refine At.empty ?_
    refine At.perm sel2 ?_
    refine At.perm sel1 ?_
    refine At.perm sel2 ?_
    refine At.loop (fun fr_ hp_ ms_ => ∃ (k np : Nat) (ap : Option Addr) (cp : Nat) (Np : Heaplet), fr_ = [(1, .pointer (some ⟨b1, 0, none⟩)), (3, .slice ap np cp), (4, .int .i64 (k : Int))] ∧ hp_ = [N1, Np, R] ∧ x.ni - k = ms_ ∧ (k ≤ x.ni) ∧ (np = (It.forms (its.take k)).length) ∧ (Row Np 5 1 ap np cp (u8s (It.forms (its.take k))))) ?_ (.refl _) ⟨0, 0, none, 0, nilH, rfl, rfl, rfl, by omega, by simp [It.forms], by simpa [It.forms, u8s] using Row.nil nilH 5 1⟩ ?_
    · exact .cons (by first | exact lkI rfl (by omega) | rfl) (.cons (by first | exact lkI rfl (by omega) | rfl) (.cons (by first | exact lkI rfl (by omega) | rfl) .nil))
    rintro _ _ _ ⟨k, np, ap, cp, Np, rfl, rfl, rfl, hk, hnp, rp⟩
    have sp := rp.rsl
    have hle := forms_take_le its k
    refine At.seq fun K7 hk_7 => ?_
    refine At.seq fun K8 hk_8 => ?_
    refine At.region ?_
    refine op_move (nxlf rfl) rfl rfl ?_
    refine op_fieldAddr (nxlf rfl) fl92_2 rfl rfl ?_
    refine op_loadB (nxlf rfl) sc90 rfl B1 (by first | rfl) mem0 rfl ?_
    refine op_lenS (nxlf rfl) se90 rfl rfl ?_
    refine op_lss (nxlf rfl) rfl rfl rfl ?_
    refine At.opsNil ?_
    refine At.norm (hk_8 ?_)
    refine At.condP rfl (fun c34 => ?_) (fun c34 => ?_)
    · have hlt : k < its.length := by omega
      obtain ⟨y, hy, hi⟩ := hX.get (List.getElem?_eq_getElem hlt)
      have hts := forms_take_succ (List.getElem?_eq_getElem hlt)
      have hfe := form_le (List.getElem_mem hlt)
      have hle2 := forms_take_le its (k + 1)
      have hsum : np + (its[k]).form.length ≤ (It.forms its).length := by rw [hts, List.length_append] at hle2; omega
      refine At.skip ?_
      refine At.norm (hk_7 ?_)
      refine At.seq fun K9 hk_9 => ?_
      refine At.block ?_
      refine At.region ?_
      refine op_move (nxlf rfl) rfl rfl ?_
      refine op_fieldAddr (nxlf rfl) fl92_2 rfl rfl ?_
      refine op_loadB (nxlf rfl) sc90 rfl B1 (by first | rfl) mem0 rfl ?_
      refine op_move (nxlf rfl) rfl rfl ?_
      refine op_idxE (nxlf rfl) se90 rfl rfl (by assumption) (show _ = (((k : Nat)) : Int) from by omega) (by omega) rfl ?_
      refine op_loadAggE (nxlf rfl) ag92 rfl (by assumption) (by exact cells_at hy) (by rfl) (by omega) (by first | exact mem0 | exact mem1 | exact mem2 | exact mem3 | exact mem4 | exact mem5 | exact mem6 | exact mem7 | exact mem8 | exact mem9) rfl ?_
      refine op_callA (nxla rfl) (.cons rfl .nil) (ih its[k] (List.getElem_mem hlt) R y hi (by omega)) Try.func88 rfl rfl (by simp) rfl ?_
      rintro v43 L43 ⟨M43, a43, p43, rfl, rfl, r43⟩
      change At _ _ _ [M43, N1, Np, R] _
      have s43 := r43.rsl
      refine op_append (nxl rfl) Try.underlying27 Try.underlying27 te5 rfl rfl rp (by assumption) (by first | exact mem0 | exact mem1 | exact mem2 | exact mem3 | exact mem4 | exact mem5 | exact mem6 | exact mem7 | exact mem8 | exact mem9) (by first | exact one_u8s _ | exact one_u64s _ | exact one_u32s _ | (intro u hu; simp at hu; subst hu; rfl)) (by omega) (by omega) sel2 rfl (fun N44 a44 p44 r44 => ?_)
      have s44 := r44.rsl
      refine op_assign (nxlf rfl) rfl rfl ?_
      refine At.opsNil ?_
      refine At.inNorm ?_
      refine At.norm (hk_9 ?_)
      refine At.region ?_
      refine op_move (nxlf rfl) rfl rfl ?_
      refine op_addI (nxlf rfl) rfl rfl (by omega) (by omega) rfl ?_
      refine op_assign (nxlf rfl) rfl rfl ?_
      refine At.opsNil ?_
      refine At.norm ?_
      refine At.sub (L' := [N44, N1, R]) (.cons_cons _ (.cons _ (.cons_cons _ (.cons_cons _ (.slnil))))) ?_
      refine At.perm sel2 ?_
      refine At.perm sel1 ?_
      refine At.perm sel2 ?_
      refine At.back ?_ (.refl _) ⟨k + 1, np + (its[k]).form.length, a44, p44, N44, rfl, rfl, rfl, by omega, by rw [hts, List.length_append, hnp], by rw [hts, u8s, List.map_append]; exact r44⟩ ?_
      · exact .cons (by first | exact lkI rfl (by omega) | rfl) (.cons (by first | exact lkI rfl (by omega) | rfl) (.cons (by first | exact lkI rfl (by omega) | rfl) .nil))
      · omega
    · refine At.exit (At.thenExit (At.thenExit (At.inHit ?_)))
      refine At.norm (hk_5 ?_)
      refine At.seq fun K10 hk_10 => ?_
      refine At.region ?_
      refine op_move (nxlf rfl) rfl rfl ?_
      refine op_lenS (nxlf rfl) se27 rfl rfl ?_
      refine op_callA (nxla rfl) (.cons rfl (.cons rfl .nil)) (rhead_f 192 np (by omega) (by omega)) Try.func116 rfl rfl (by simp) rfl ?_
      rintro v47 L47 ⟨M47, a47, p47, rfl, rfl, r47⟩
      change At _ _ _ [M47, N1, Np, R] _
      refine op_move (nxlf rfl) rfl rfl ?_
      have h9 := rlpHead_le 192 np (by omega)
      refine op_append (nxl rfl) Try.underlying27 Try.underlying27 te5 rfl rfl r47 (by assumption) (by first | exact mem0 | exact mem1 | exact mem2 | exact mem3 | exact mem4 | exact mem5 | exact mem6 | exact mem7 | exact mem8 | exact mem9) (by first | exact one_u8s _ | exact one_u64s _ | exact one_u32s _ | (intro u hu; simp at hu; subst hu; rfl)) (by omega) (by omega) sel0 rfl (fun N49 a49 p49 r49 => ?_)
      have s49 := r49.rsl
      refine op_assign (nxlf rfl) rfl rfl ?_
      refine At.opsNil ?_
      refine At.norm (hk_10 ?_)
      refine At.ret (?_)
      refine At.sub (L' := [N49, R]) (.cons_cons _ (.cons _ (.cons _ (.cons_cons _ (.slnil))))) ?_
      refine At.ret1 (L1 := [N49]) rfl (.tmp rfl .nil) (.refl _) (.refl _) ?_
      obtain rfl : k = its.length := by omega
      rw [List.take_length] at hnp r49
      subst hnp
      exact ⟨N49, a49, p49, by rw [hf, List.length_append], rfl, by rw [hf, List.length_append, u8s, List.map_append]; exact r49⟩
end Go.Proofs.Ytljacjjeinmfnaa
/- quarrykeep.Twin, and quarrylaw05's nested, Twin, cut. No condition. -/
namespace Go.Proofs.Ytljacjjeinmfnaa
set_option linter.unusedVariables false
set_option linter.unusedSimpArgs false
open Go Go.RowKit
theorem KTwin_f {N : Heaplet} {ao : Option Addr} {n cap : Nat} {l : List UInt8} (h : RSl N 1 ao n cap (u8s l)) (m : Nat) (q : Int) (hq : q = (m : Int)) (hm : m ≤ 140737488351232) :
    Fn Try.prog 8 #[.slice ao n cap, .int .i64 q] [] [N] (fun v L => ∃ M a c, v = .slice a (l.take m).length c ∧ L = [M] ∧ Row M 5 1 a (l.take m).length c (u8s (l.take m))) := by
  have hlen := h.len8
  have hcap := h.cap63
  refine Fn.enter (vs := [.slice ao n cap, .int .i64 q]) Try.func8 rfl rfl rfl ?_
  intro E R hR
  have h := h.le (hR N (by simp))
  change At _ _ E [R] _
  refine At.seq fun K1 hk_1 => ?_
  refine At.region ?_
  refine op_assign (nxlf rfl) rfl rfl ?_
  refine At.opsNil ?_
  refine At.norm (hk_1 ?_)
  refine At.seq fun K2 hk_2 => ?_
  refine At.seq fun K3 hk_3 => ?_
  refine At.region ?_
  refine op_move (nxlf rfl) rfl rfl ?_
  refine op_lenS (nxlf rfl) se27 rfl rfl ?_
  refine op_move (nxlf rfl) rfl rfl ?_
  refine op_gtr (nxlf rfl) rfl rfl rfl ?_
  refine At.opsNil ?_
  refine At.norm (hk_3 ?_)
  refine At.condP rfl (fun c8 => ?_) (fun c8 => ?_)
  · refine At.region ?_
    refine op_move (nxlf rfl) rfl rfl ?_
    refine op_move (nxlf rfl) rfl rfl ?_
    refine op_slice0 (nxlf rfl) se27 rfl (.some rfl (show _ = (((m : Nat)) : Int) from by omega)) .none (by omega) (by omega) (by simp) rfl ?_
    have s11 := h.take8 (hi := m) (m := cap) (by omega) (by omega) (by omega)
    refine op_assign (nxlf rfl) rfl rfl ?_
    refine At.opsNil ?_
    refine At.norm (hk_2 ?_)
    refine At.seq fun K4 hk_4 => ?_
    refine At.region ?_
    refine op_lit (nxla rfl) Try.underlying27 ze5 sz5 .nil rfl rfl (by simp [Value.cells]) rfl rfl rfl (fun N12 a12 r12 => ?_)
    simp only [flatV, List.flatMap_cons, List.flatMap_nil, Value.cells, List.append_nil, List.cons_append, List.nil_append] at r12
    have s12 := r12.rsl
    refine op_move (nxlf rfl) rfl rfl ?_
    refine op_append (nxl rfl) Try.underlying27 Try.underlying27 te5 rfl rfl r12 (by assumption) (by first | exact mem0 | exact mem1 | exact mem2 | exact mem3 | exact mem4 | exact mem5 | exact mem6 | exact mem7 | exact mem8 | exact mem9) (by first | exact one_u8s _ | exact one_u64s _ | exact one_u32s _ | (intro u hu; simp at hu; subst hu; rfl)) (by omega) (by omega) sel0 rfl (fun N14 a14 p14 r14 => ?_)
    have s14 := r14.rsl
    refine op_assign (nxlf rfl) rfl rfl ?_
    refine At.opsNil ?_
    refine At.norm (hk_4 ?_)
    refine At.ret (?_)
    refine At.ret1 (L1 := [N14]) rfl (.tmp rfl .nil) (.refl _) (.refl _) ?_
    rw [List.nil_append, Nat.zero_add] at r14
    exact ⟨N14, a14, p14, by rw [List.length_take, hlen, Nat.min_eq_left (by omega), Nat.zero_add], rfl, by rw [List.length_take, hlen, Nat.min_eq_left (by omega)]; exact r14⟩
  · refine At.skip ?_
    refine At.norm (hk_2 ?_)
    refine At.seq fun K5 hk_5 => ?_
    refine At.region ?_
    refine op_lit (nxla rfl) Try.underlying27 ze5 sz5 .nil rfl rfl (by simp [Value.cells]) rfl rfl rfl (fun N12 a12 r12 => ?_)
    simp only [flatV, List.flatMap_cons, List.flatMap_nil, Value.cells, List.append_nil, List.cons_append, List.nil_append] at r12
    have s12 := r12.rsl
    refine op_move (nxlf rfl) rfl rfl ?_
    refine op_append (nxl rfl) Try.underlying27 Try.underlying27 te5 rfl rfl r12 (by assumption) (by first | exact mem0 | exact mem1 | exact mem2 | exact mem3 | exact mem4 | exact mem5 | exact mem6 | exact mem7 | exact mem8 | exact mem9) (by first | exact one_u8s _ | exact one_u64s _ | exact one_u32s _ | (intro u hu; simp at hu; subst hu; rfl)) (by omega) (by omega) sel0 rfl (fun N14 a14 p14 r14 => ?_)
    have s14 := r14.rsl
    refine op_assign (nxlf rfl) rfl rfl ?_
    refine At.opsNil ?_
    refine At.norm (hk_5 ?_)
    refine At.ret (?_)
    refine At.ret1 (L1 := [N14]) rfl (.tmp rfl .nil) (.refl _) (.refl _) ?_
    rw [List.nil_append, Nat.zero_add] at r14
    have e : l.take m = l := List.take_of_length_le (by omega)
    exact ⟨N14, a14, p14, by rw [e, hlen, Nat.zero_add], rfl, by rw [e, hlen]; exact r14⟩
/-- So many lists around an item. -/
def nestN : Nat → It → It
  | 0, t => t
  | k + 1, t => .mk true [] [nestN k t]
end Go.Proofs.Ytljacjjeinmfnaa
/- quarrylaw05.RlpEnvelope answers true. No condition. -/
namespace Go.Proofs.Ytljacjjeinmfnaa
set_option linter.unusedVariables false
set_option linter.unusedSimpArgs false
open Go Go.RowKit
/-- Kind and body. -/
def envF (b : List UInt8) : Option (Nat × List UInt8) :=
  if b.length = 0 ∨ (128 ≤ (b.getD 0 0).toNat ∧ (b.getD 0 0).toNat < 192) then none
  else if 192 ≤ (b.getD 0 0).toNat then some (0, b)
  else some ((b.getD 0 0).toNat, b.drop 1)
/-- What is told of it. -/
def EnvP (N : Heaplet) (r : Option (Nat × List UInt8)) (v : Value) : Prop :=
  (r = none ∧ v = .tuple #[.int .i64 0, .slice none 0 0, .int .i64 2]) ∨
  (∃ k p a c, r = some (k, p) ∧ v = .tuple #[.int .i64 (k : Int), .slice a p.length c, .int .i64 0] ∧ RSl N 1 a p.length c (u8s p))
theorem EnvP.mk {N : Heaplet} {r : Option (Nat × List UInt8)} {k n c : Nat} {q : Int} {a : Option Addr} {p : List UInt8} (hr : r = some (k, p)) (hq : q = (k : Int)) (h : RSl N 1 a n c (u8s p)) : EnvP N r (.tuple #[.int .i64 q, .slice a n c, .int .i64 0]) := by
  have e := h.len8
  subst e; subst hq
  exact .inr ⟨k, p, a, c, hr, rfl, h⟩
theorem Envelope_f {N : Heaplet} {ao : Option Addr} {n cap : Nat} {b : List UInt8} (h : RSl N 1 ao n cap (u8s b)) (hn : n ≤ 1099511627776) :
    Fn Try.prog 64 #[.slice ao n cap] [] [N] (fun v L => (L = [] ∧ envF b = none ∧ v = .tuple #[.int .i64 0, .slice none 0 0, .int .i64 2]) ∨ ∃ M k p a c, L = [M] ∧ envF b = some (k, p) ∧ v = .tuple #[.int .i64 (k : Int), .slice a p.length c, .int .i64 0] ∧ RSl M 1 a p.length c (u8s p)) := by
  have hlen := h.len8
  have hcap := h.cap63
  have ok : ∀ {M : Heaplet} {k n c : Nat} {q : Int} {a : Option Addr} {p : List UInt8}, envF b = some (k, p) → q = (k : Int) → RSl M 1 a n c (u8s p) →
      ∃ M' k p a' c', [M] = [M'] ∧ envF b = some (k, p) ∧ (Value.tuple #[.int .i64 q, .slice a n c, .int .i64 0]) = .tuple #[.int .i64 (k : Int), .slice a' p.length c', .int .i64 0] ∧ RSl M' 1 a' p.length c' (u8s p) := by
    intro M k n c q a p hr hq h
    have e := h.len8
    subst e; subst hq
    exact ⟨M, k, p, a, c, rfl, hr, rfl, h⟩
  refine Fn.enter (vs := [.slice ao n cap]) Try.func64 rfl rfl rfl ?_
  intro E R hR
  have h := h.le (hR N (by simp))
  change At _ _ E [R] _
  refine At.seq fun K1 hk_1 => ?_
  refine At.region ?_
  refine op_assign (nxlf rfl) rfl rfl ?_
  refine op_assign (nxlf rfl) rfl rfl ?_
  refine op_assign (nxlf rfl) rfl rfl ?_
  refine At.opsNil ?_
  refine At.norm (hk_1 ?_)
  refine At.seq fun K2 hk_2 => ?_
  refine At.block ?_
  refine At.seq fun K3 hk_3 => ?_
  refine At.region ?_
  refine op_move (nxlf rfl) rfl rfl ?_
  refine op_lenS (nxlf rfl) se27 rfl rfl ?_
  refine op_eql (nxlf rfl) rfl rfl rfl ?_
  refine op_move (nxlf rfl) rfl rfl ?_
  refine At.partP (d := 9) rfl (fun g9 => ?_) (fun g9 => ?_)
  · refine op_skip rfl rfl rfl rfl rfl rfl rfl ?_
    refine op_skip rfl rfl rfl rfl rfl rfl rfl ?_
    refine op_skip rfl rfl rfl rfl rfl rfl rfl ?_
    refine op_skip rfl rfl rfl rfl rfl rfl rfl ?_
    refine op_skip rfl rfl rfl rfl rfl rfl rfl ?_
    refine op_skipU rfl rfl rfl rfl rfl rfl ?_
    refine op_skipU rfl rfl rfl rfl rfl rfl ?_
    refine op_skipU rfl rfl rfl rfl rfl rfl ?_
    refine op_skipU rfl rfl rfl rfl rfl rfl ?_
    refine op_skip rfl rfl rfl rfl rfl rfl rfl ?_
    refine op_pickT (nxlf rfl) rfl rfl rfl ?_
    refine op_assign (nxlf rfl) rfl rfl ?_
    refine At.opsNil ?_
    refine At.norm (hk_3 ?_)
    refine At.condT rfl ?_
    refine At.seq fun K4 hk_4 => ?_
    refine At.region ?_
    refine op_assign (nxlf rfl) rfl rfl ?_
    refine op_assign (nxlf rfl) rfl rfl ?_
    refine op_assign (nxlf rfl) rfl rfl ?_
    refine At.opsNil ?_
    refine At.norm (hk_4 ?_)
    refine At.ret (At.inRet (At.thenRet (?_)))
    refine At.retN (L1 := []) rfl (.tmp rfl (.tmp rfl (.tmp rfl .nil))) rfl (.refl _) (.refl _) ?_
    exact .inl ⟨rfl, by rw [envF, if_pos (by omega)], rfl⟩
  · refine op_move (nxgf rfl rfl rfl rfl) rfl rfl ?_
    refine op_idx1 (nxgf rfl rfl rfl rfl) se27 rfl rfl (by assumption) (show _ = ((0 : Nat) : Int) from rfl) (by omega) rfl ?_
    refine op_loadE (nxgf rfl rfl rfl rfl) sc5 rfl (by assumption) (by first | exact get8 (by omega) | exact get64 (by omega) | exact get32 (by omega)) (by first | exact mem0 | exact mem1 | exact mem2 | exact mem3 | exact mem4 | exact mem5 | exact mem6 | exact mem7 | exact mem8 | exact mem9) rfl ?_
    refine op_geq (nxgf rfl rfl rfl rfl) rfl rfl rfl ?_
    refine op_move (nxgf rfl rfl rfl rfl) rfl rfl ?_
    refine At.partP (d := 14) rfl (fun g14 => ?_) (fun g14 => ?_)
    · refine op_move (nxgf rfl rfl rfl rfl) rfl rfl ?_
      refine op_idx1 (nxgf rfl rfl rfl rfl) se27 rfl rfl (by assumption) (show _ = ((0 : Nat) : Int) from rfl) (by omega) rfl ?_
      refine op_loadE (nxgf rfl rfl rfl rfl) sc5 rfl (by assumption) (by first | exact get8 (by omega) | exact get64 (by omega) | exact get32 (by omega)) (by first | exact mem0 | exact mem1 | exact mem2 | exact mem3 | exact mem4 | exact mem5 | exact mem6 | exact mem7 | exact mem8 | exact mem9) rfl ?_
      refine op_lss (nxgf rfl rfl rfl rfl) rfl rfl rfl ?_
      refine op_pickT (nxgf rfl rfl rfl rfl) rfl rfl rfl ?_
      refine op_pickF (nxlf rfl) rfl rfl rfl ?_
      refine op_assign (nxlf rfl) rfl rfl ?_
      refine At.opsNil ?_
      refine At.norm (hk_3 ?_)
      refine At.condP rfl (fun c5 => ?_) (fun c5 => ?_)
      · refine At.seq fun K5 hk_5 => ?_
        refine At.region ?_
        refine op_assign (nxlf rfl) rfl rfl ?_
        refine op_assign (nxlf rfl) rfl rfl ?_
        refine op_assign (nxlf rfl) rfl rfl ?_
        refine At.opsNil ?_
        refine At.norm (hk_5 ?_)
        refine At.ret (At.inRet (At.thenRet (?_)))
        refine At.retN (L1 := []) rfl (.tmp rfl (.tmp rfl (.tmp rfl .nil))) rfl (.refl _) (.refl _) ?_
        exact .inl ⟨rfl, by rw [envF, if_pos (by omega)], rfl⟩
      · refine At.seq fun K6 hk_6 => ?_
        refine At.region ?_
        refine op_move (nxlf rfl) rfl rfl ?_
        refine op_idx1 (nxlf rfl) se27 rfl rfl (by assumption) (show _ = ((0 : Nat) : Int) from rfl) (by omega) rfl ?_
        refine op_loadE (nxlf rfl) sc5 rfl (by assumption) (by first | exact get8 (by omega) | exact get64 (by omega) | exact get32 (by omega)) (by first | exact mem0 | exact mem1 | exact mem2 | exact mem3 | exact mem4 | exact mem5 | exact mem6 | exact mem7 | exact mem8 | exact mem9) rfl ?_
        refine op_geq (nxlf rfl) rfl rfl rfl ?_
        refine op_assign (nxlf rfl) rfl rfl ?_
        refine At.opsNil ?_
        refine At.norm (hk_6 ?_)
        refine At.condP rfl (fun c21 => ?_) (fun c21 => ?_)
        · refine At.seq fun K7 hk_7 => ?_
          refine At.region ?_
          refine op_move (nxlf rfl) rfl rfl ?_
          refine op_append0 (nxla rfl) Try.underlying27 Try.underlying27 te5 rfl rfl (by assumption) (by first | exact mem0 | exact mem1 | exact mem2 | exact mem3 | exact mem4 | exact mem5 | exact mem6 | exact mem7 | exact mem8 | exact mem9) (by first | exact one_u8s _ | exact one_u64s _ | exact one_u32s _ | (intro u hu; simp at hu; subst hu; rfl)) (by omega) (by omega) rfl (fun N27 a27 p27 r27 => ?_)
          have s27 := r27.rsl
          refine op_assign (nxlf rfl) rfl rfl ?_
          refine op_assign (nxlf rfl) rfl rfl ?_
          refine op_assign (nxlf rfl) rfl rfl ?_
          refine At.opsNil ?_
          refine At.norm (hk_7 ?_)
          refine At.ret (At.inRet (At.thenRet (?_)))
          refine At.retN (L1 := [N27]) rfl (.tmp rfl (.tmp rfl (.tmp rfl .nil))) rfl (.refl _) (.refl _) ?_
          exact .inr (ok (by rw [envF, if_neg (by omega), if_pos (by omega)]) rfl r27.rsl)
        · refine At.skip ?_
          refine At.inNorm ?_
          refine At.norm (hk_2 ?_)
          refine At.seq fun K8 hk_8 => ?_
          refine At.drawn [] [0,1,2,3,4,5,6,7,8,9] (by kernel_rfl) (by kernel_rfl) ?_
          refine op_move (nxof rfl rfl rfl (by kernel_rfl)) rfl rfl ?_
          refine op_idx1 (nxof rfl rfl rfl (by kernel_rfl)) se27 rfl rfl (by assumption) (show _ = ((0 : Nat) : Int) from rfl) (by omega) rfl ?_
          refine op_loadE (nxof rfl rfl rfl (by kernel_rfl)) sc5 rfl (by assumption) (by first | exact get8 (by omega) | exact get64 (by omega) | exact get32 (by omega)) (by first | exact mem0 | exact mem1 | exact mem2 | exact mem3 | exact mem4 | exact mem5 | exact mem6 | exact mem7 | exact mem8 | exact mem9) rfl ?_
          refine op_convI (nxof rfl rfl rfl (by kernel_rfl)) (und_some Try.underlying5) Try.underlying3 rfl (by omega) (by omega) rfl ?_
          refine op_move (nxof rfl rfl rfl (by kernel_rfl)) rfl rfl ?_
          refine op_slice (nxof rfl rfl rfl (by kernel_rfl)) se27 rfl (.some rfl (show _ = ((1 : Nat) : Int) from rfl)) .none .none (by omega) (by omega) (by omega) (by simp) rfl ?_
          have s33 := h.drop8 (lo := 1) (by omega)
          refine op_append0 (nxoa rfl rfl rfl) Try.underlying27 Try.underlying27 te5 rfl rfl (by assumption) (by first | exact mem0 | exact mem1 | exact mem2 | exact mem3 | exact mem4 | exact mem5 | exact mem6 | exact mem7 | exact mem8 | exact mem9) (by first | exact one_u8s _ | exact one_u64s _ | exact one_u32s _ | (intro u hu; simp at hu; subst hu; rfl)) (by omega) (by omega) rfl (fun N34 a34 p34 r34 => ?_)
          have s34 := r34.rsl
          refine op_assign (nxof rfl rfl rfl (by kernel_rfl)) rfl rfl ?_
          refine op_assign (nxof rfl rfl rfl (by kernel_rfl)) rfl rfl ?_
          refine op_assign (nxof rfl rfl rfl (by kernel_rfl)) rfl rfl ?_
          refine At.oneNil ?_
          refine At.norm (hk_8 ?_)
          refine At.ret (?_)
          refine At.retN (L1 := [N34]) rfl (.tmp rfl (.tmp rfl (.tmp rfl .nil))) rfl (.refl _) (.refl _) ?_
          exfalso; omega
    · refine op_skip rfl rfl rfl rfl rfl rfl rfl ?_
      refine op_skip rfl rfl rfl rfl rfl rfl rfl ?_
      refine op_skip rfl rfl rfl rfl rfl rfl rfl ?_
      refine op_skip rfl rfl rfl rfl rfl rfl rfl ?_
      refine op_pickF (nxgf rfl rfl rfl rfl) rfl rfl rfl ?_
      refine op_pickF (nxlf rfl) rfl rfl rfl ?_
      refine op_assign (nxlf rfl) rfl rfl ?_
      refine At.opsNil ?_
      refine At.norm (hk_3 ?_)
      refine At.condF rfl ?_
      refine At.seq fun K9 hk_9 => ?_
      refine At.region ?_
      refine op_move (nxlf rfl) rfl rfl ?_
      refine op_idx1 (nxlf rfl) se27 rfl rfl (by assumption) (show _ = ((0 : Nat) : Int) from rfl) (by omega) rfl ?_
      refine op_loadE (nxlf rfl) sc5 rfl (by assumption) (by first | exact get8 (by omega) | exact get64 (by omega) | exact get32 (by omega)) (by first | exact mem0 | exact mem1 | exact mem2 | exact mem3 | exact mem4 | exact mem5 | exact mem6 | exact mem7 | exact mem8 | exact mem9) rfl ?_
      refine op_geq (nxlf rfl) rfl rfl rfl ?_
      refine op_assign (nxlf rfl) rfl rfl ?_
      refine At.opsNil ?_
      refine At.norm (hk_9 ?_)
      refine At.condP rfl (fun c21 => ?_) (fun c21 => ?_)
      · refine At.seq fun K10 hk_10 => ?_
        refine At.region ?_
        refine op_move (nxlf rfl) rfl rfl ?_
        refine op_append0 (nxla rfl) Try.underlying27 Try.underlying27 te5 rfl rfl (by assumption) (by first | exact mem0 | exact mem1 | exact mem2 | exact mem3 | exact mem4 | exact mem5 | exact mem6 | exact mem7 | exact mem8 | exact mem9) (by first | exact one_u8s _ | exact one_u64s _ | exact one_u32s _ | (intro u hu; simp at hu; subst hu; rfl)) (by omega) (by omega) rfl (fun N27 a27 p27 r27 => ?_)
        have s27 := r27.rsl
        refine op_assign (nxlf rfl) rfl rfl ?_
        refine op_assign (nxlf rfl) rfl rfl ?_
        refine op_assign (nxlf rfl) rfl rfl ?_
        refine At.opsNil ?_
        refine At.norm (hk_10 ?_)
        refine At.ret (At.inRet (At.thenRet (?_)))
        refine At.retN (L1 := [N27]) rfl (.tmp rfl (.tmp rfl (.tmp rfl .nil))) rfl (.refl _) (.refl _) ?_
        exfalso; omega
      · refine At.skip ?_
        refine At.inNorm ?_
        refine At.norm (hk_2 ?_)
        refine At.seq fun K11 hk_11 => ?_
        refine At.drawn [] [0,1,2,3,4,5,6,7,8,9] (by kernel_rfl) (by kernel_rfl) ?_
        refine op_move (nxof rfl rfl rfl (by kernel_rfl)) rfl rfl ?_
        refine op_idx1 (nxof rfl rfl rfl (by kernel_rfl)) se27 rfl rfl (by assumption) (show _ = ((0 : Nat) : Int) from rfl) (by omega) rfl ?_
        refine op_loadE (nxof rfl rfl rfl (by kernel_rfl)) sc5 rfl (by assumption) (by first | exact get8 (by omega) | exact get64 (by omega) | exact get32 (by omega)) (by first | exact mem0 | exact mem1 | exact mem2 | exact mem3 | exact mem4 | exact mem5 | exact mem6 | exact mem7 | exact mem8 | exact mem9) rfl ?_
        refine op_convI (nxof rfl rfl rfl (by kernel_rfl)) (und_some Try.underlying5) Try.underlying3 rfl (by omega) (by omega) rfl ?_
        refine op_move (nxof rfl rfl rfl (by kernel_rfl)) rfl rfl ?_
        refine op_slice (nxof rfl rfl rfl (by kernel_rfl)) se27 rfl (.some rfl (show _ = ((1 : Nat) : Int) from rfl)) .none .none (by omega) (by omega) (by omega) (by simp) rfl ?_
        have s33 := h.drop8 (lo := 1) (by omega)
        refine op_append0 (nxoa rfl rfl rfl) Try.underlying27 Try.underlying27 te5 rfl rfl (by assumption) (by first | exact mem0 | exact mem1 | exact mem2 | exact mem3 | exact mem4 | exact mem5 | exact mem6 | exact mem7 | exact mem8 | exact mem9) (by first | exact one_u8s _ | exact one_u64s _ | exact one_u32s _ | (intro u hu; simp at hu; subst hu; rfl)) (by omega) (by omega) rfl (fun N34 a34 p34 r34 => ?_)
        have s34 := r34.rsl
        refine op_assign (nxof rfl rfl rfl (by kernel_rfl)) rfl rfl ?_
        refine op_assign (nxof rfl rfl rfl (by kernel_rfl)) rfl rfl ?_
        refine op_assign (nxof rfl rfl rfl (by kernel_rfl)) rfl rfl ?_
        refine At.oneNil ?_
        refine At.norm (hk_11 ?_)
        refine At.ret (?_)
        refine At.retN (L1 := [N34]) rfl (.tmp rfl (.tmp rfl (.tmp rfl .nil))) rfl (.refl _) (.refl _) ?_
        exact .inr (ok (by rw [envF, if_neg (by omega), if_neg (by omega)]) rfl r34.rsl)
end Go.Proofs.Ytljacjjeinmfnaa
/- quarrylaw05.Same, the reference's Decode; quarrylaw05.RlpDecode answers true. No condition but that bytes are not longer than a machine holds. -/
namespace Go.Proofs.Ytljacjjeinmfnaa
set_option linter.unusedVariables false
set_option linter.unusedSimpArgs false
open Go Go.RowKit
mutual
/-- The same item? -/
def It.same : It → It → Bool
  | .mk l bs its, .mk l' bs' its' => decide (l = l') && (decide (bs = bs') && It.sames its its')
def It.sames : List It → List It → Bool
  | [], [] => true
  | t :: ts, u :: us => It.same t u && It.sames ts us
  | _, _ => false
end
mutual
theorem It.same_self : ∀ t : It, It.same t t = true
  | .mk l bs its => by simp [It.same, It.sames_self its]
theorem It.sames_self : ∀ ts : List It, It.sames ts ts = true
  | [] => by simp [It.sames]
  | t :: ts => by simp [It.sames, It.same_self t, It.sames_self ts]
end
end Go.Proofs.Ytljacjjeinmfnaa
