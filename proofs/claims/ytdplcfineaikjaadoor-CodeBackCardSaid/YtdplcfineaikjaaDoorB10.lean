/- Several texts in one: see the remarks ahead of each part. No condition but those told there. -/
import Derived.Test.YtdplcfineaikjaaDoorB9
import Derived.Test.YtdplcfineaikjaaDoorBCN1
import Derived.Test.YtdplcfineaikjaaDoorB6
import Derived.Test.YtdplcfineaikjaaDoorB4
import Derived.Stop.BytesEq
import Derived.Laws.StructEq
/- code.Read at what code.List writes. Condition: the table of white space is laid. -/
namespace Go.Proofs.YtdplcfineaikjaaDoor
set_option linter.unusedVariables false
set_option linter.unusedSimpArgs false
open Go Go.RowKit
theorem pieC_len (f : Int) (l : List UInt8) (p : Nat) : 2 ≤ (pieC f l p).length := by
  unfold pieC
  split
  · exact Nat.le_succ 2
  · split
    · exact Nat.le_refl 2
    · exact Nat.le_succ 2
theorem codeC_len (f : Int) (l : List UInt8) (p : Nat) : (codeC f l p).length = min (1 + ownC f l p) (l.length - p) := by rw [codeC, List.length_take, List.length_drop]
theorem codeC_cons {f : Int} {l : List UInt8} {p : Nat} (h : p < l.length) : codeC f l p = l.getD p 0 :: (l.drop (p + 1)).take (ownC f l p) := by
  rw [codeC, List.drop_eq_getElem_cons h, Nat.add_comm, List.take_succ_cons, List.getD_eq_getElem?_getD, List.getElem?_eq_getElem h, Option.getD_some]
theorem take_code (f : Int) (l : List UInt8) (p : Nat) : l.take p ++ codeC f l p = l.take (p + 1 + ownC f l p) := by
  rw [codeC, Nat.add_assoc]
  conv => rhs; rw [List.take_add]
section
variable {N M : Heaplet} {ap : Option Addr} {cp : Nat}
theorem FLineC_f (hT : TabH M) (f : Int) (l : List UInt8) (p : Nat) (hp : p < l.length) (s : RSl N 1 ap (pieC f l p).length cp (txs (pieC f l p))) : Fn Tryd.prog 44 #[.int .i64 f, .slice ap (pieC f l p).length cp] [] [N, M] (LinR (codeC f l p) (((1 + ownC f l p : Nat) : Int) - ((codeC f l p).length : Int))) := by
  have hb := (l.getD p 0).toNat_lt
  by_cases h0 : nameC f ((l.getD p 0).toNat : Int) = []
  · have e1 : pieC f l p = [Lib.decDigits p, wINV7, hexT [l.getD p 0]] := if_pos h0
    have e2 : ownC f l p = 0 := if_pos h0
    have e3 : codeC f l p = [l.getD p 0] := by rw [codeC_cons hp, e2]; rfl
    rw [e1] at s ⊢
    rw [e2, e3]
    exact (FLine_n f p (l.getD p 0) (no_op_of_name h0) s).more (by simp)
  · obtain ⟨h1, h2⟩ := op_of_name h0
    have e2 : ownC f l p = ownB (l.getD p 0) := if_neg h0
    have hnm := named_self h1 hb h2
    have hni := name_inv h1 hb
    by_cases h3 : ownB (l.getD p 0) = 0
    · have e1 : pieC f l p = [Lib.decDigits p, nameC f ((l.getD p 0).toNat : Int)] := by rw [pieC, if_neg h0, if_pos h3]
      have e3 : codeC f l p = [l.getD p 0] := by rw [codeC_cons hp, e2, h3]; rfl
      rw [e1] at s ⊢
      rw [e2, e3, h3]
      exact FLine_0 hT f p (l.getD p 0) hnm hni h3 s
    · have e1 : pieC f l p = [Lib.decDigits p, nameC f ((l.getD p 0).toNat : Int), hexT ((l.drop (p + 1)).take (ownB (l.getD p 0)))] := by rw [pieC, if_neg h0, if_neg h3]
      have e3 : codeC f l p = l.getD p 0 :: (l.drop (p + 1)).take (ownB (l.getD p 0)) := by rw [codeC_cons hp, e2]
      have e4 : ((1 + ownB (l.getD p 0) : Nat) : Int) - (((l.getD p 0 :: (l.drop (p + 1)).take (ownB (l.getD p 0))).length : Nat) : Int) = (ownB (l.getD p 0) : Int) - ((((l.drop (p + 1)).take (ownB (l.getD p 0))).length : Nat) : Int) := by
        rw [List.length_cons]; omega
      rw [e1] at s ⊢
      rw [e2, e3, e4]
      exact FLine_y hT f p (l.getD p 0) hnm hni (by omega) (by rw [List.length_take]; omega) s
theorem txs_row {xs : List (List UInt8)} {i : Nat} {x : List UInt8} {t : List (List UInt8)} (h : xs.drop i = x :: t) : i < xs.length ∧ (txs xs)[i]? = some (str x) ∧ xs.drop (i + 1) = t := by
  have hlt : i < xs.length := by
    rcases Nat.lt_or_ge i xs.length with h1 | h1
    · exact h1
    · rw [List.drop_eq_nil_of_le h1] at h; cases h
  rw [List.drop_eq_getElem_cons hlt] at h
  injection h with h1 h2
  refine ⟨hlt, ?_, h2⟩
  rw [txs, List.getElem?_map, List.getElem?_eq_getElem hlt, h1]; rfl
def CRdP (l : List UInt8) (v : Value) (L : List Heaplet) : Prop := ∃ K a c, v = .tuple #[.slice a l.length c, faultV 0 0] ∧ L = [K] ∧ RSl K 1 a l.length c (u8s l)
theorem CRead_0 (f : Int) : Fn Tryd.prog 24 #[.int .i64 f, str []] [] [] (CRdP []) := by
  have hS : Fn Tryd.prog 42 #[str [], str [10]] [] [] (TxP [[]]) := FSplit_f (xs := []) (fun x h => absurd h List.not_mem_nil) (by decide) (by decide)
  have hF : Fn Tryd.prog 43 #[str []] [] [] (TxP []) := by
    have := HFields_f (s := []) (by decide)
    rw [fields_nil] at this
    exact this
  refine Fn.enter (vs := [.int .i64 f, str []]) Tryd.func24 rfl rfl rfl ?_
  intro E R hR
  change At _ _ E [R] _
  refine At.seq fun K1 hk_1 => ?_
  refine At.region ?_
  refine op_assign (nxlf rfl) rfl rfl ?_
  refine op_alloc (nxla rfl) ze48 rfl (fun N5 b5 B5 => ?_)
  change Blk N5 b5 _ [.int .i64 0, .int .i64 0] at B5
  change Blk N5 b5 _ [.int .i64 0, .int .i64 0] at B5
  refine At.opsNil ?_
  refine At.norm (hk_1 ?_)
  refine At.seq fun K2 hk_2 => ?_
  refine At.region ?_
  refine op_assign (nxlf rfl) rfl rfl ?_
  refine At.opsNil ?_
  refine At.norm (hk_2 ?_)
  refine At.seq fun K3 hk_3 => ?_
  refine At.region ?_
  refine op_assign (nxlf rfl) rfl rfl ?_
  refine At.opsNil ?_
  refine At.norm (hk_3 ?_)
  refine At.seq fun K4 hk_4 => ?_
  refine At.seq fun K5 hk_5 => ?_
  refine At.region ?_
  refine op_move (nxlf rfl) rfl rfl ?_
  refine op_callA (nxla rfl) (.cons rfl (.cons rfl .nil)) (hS) Tryd.func42 rfl rfl (by simp) rfl ?_
  rintro v15 L15 ⟨N15, a15, c15, rfl, rfl, r15⟩
  change At _ _ _ [N15, N5, R] _
  have s15 := r15.rsl
  refine op_lenS (nxlf rfl) se31 rfl rfl ?_
  refine op_move (nxlf rfl) rfl rfl ?_
  refine At.opsNil ?_
  refine At.norm (hk_5 ?_)
  refine At.block ?_
  refine At.perm sel2 ?_
  refine At.perm sel1 ?_
  refine At.perm sel2 ?_
  refine At.loop (fun fr_ hp_ ms_ => ∃ (i : Nat), fr_ = [(0, .int .i64 f), (5, .pointer (some ⟨b5, 0, none⟩)), (6, .slice none 0 0), (7, .int .i64 (-1)), (15, .slice a15 1 c15), (16, .int .i64 1), (17, .int .i64 (i : Int))] ∧ hp_ = [N5, N15, R] ∧ 1 - i = ms_ ∧ (i ≤ 1)) ?_ (.refl _) ⟨0, rfl, rfl, rfl, Nat.zero_le _⟩ ?_
  · exact .cons (by first | exact lkI rfl (by omega) | rfl) (.cons (by first | exact lkI rfl (by omega) | rfl) (.cons (by first | exact lkI rfl (by omega) | rfl) (.cons (by first | exact lkI rfl (by omega) | rfl) (.cons (by first | exact lkI rfl (by omega) | rfl) (.cons (by first | exact lkI rfl (by omega) | rfl) (.cons (by first | exact lkI rfl (by omega) | rfl) .nil))))))
  rintro _ _ _ ⟨i, rfl, rfl, rfl, hi⟩
  refine At.seq fun K6 hk_6 => ?_
  refine At.region ?_
  refine op_lss (nxlf rfl) rfl rfl rfl ?_
  refine At.opsNil ?_
  refine At.norm (hk_6 ?_)
  refine At.seq fun K7 hk_7 => ?_
  refine At.condP rfl (fun c18 => ?_) (fun c18 => ?_)
  · refine At.knowT (d := 18) rfl c18 ?_
    have hi0 : i = 0 := by omega
    subst hi0
    refine At.skip ?_
    refine At.norm (hk_7 ?_)
    refine At.seq fun K8 hk_8 => ?_
    refine At.block ?_
    refine At.seq fun K9 hk_9 => ?_
    refine At.region ?_
    refine op_move (nxlf rfl) rfl rfl ?_
    refine op_idx1 (nxlf rfl) se31 rfl rfl s15 (show _ = (((0 : Nat)) : Int) from by omega) (by omega) rfl ?_
    refine op_loadE (nxlf rfl) sc9 rfl s15 (by first | exact get8 (by omega) | exact get64 (by omega) | exact get32 (by omega) | exact rfl) (by first | exact mem0 | exact mem1 | exact mem2 | exact mem3 | exact mem4 | exact mem5 | exact mem6 | exact mem7 | exact mem8 | exact mem9) rfl ?_
    refine op_assign (nxlf rfl) rfl rfl ?_
    refine op_assign (nxlf rfl) rfl rfl ?_
    refine At.opsNil ?_
    refine At.norm (hk_9 ?_)
    refine At.seq fun K10 hk_10 => ?_
    refine At.region ?_
    refine op_move (nxlf rfl) rfl rfl ?_
    refine op_callA (nxla rfl) (.cons rfl .nil) (hF) Tryd.func43 rfl rfl (by simp) rfl ?_
    rintro v23 L23 ⟨N23, a23, c23, rfl, rfl, r23⟩
    change At _ _ _ [N23, N5, N15, R] _
    refine op_assign (nxlf rfl) rfl rfl ?_
    refine At.opsNil ?_
    refine At.norm (hk_10 ?_)
    refine At.seq fun K11 hk_11 => ?_
    refine At.seq fun K12 hk_12 => ?_
    refine At.region ?_
    refine op_move (nxlf rfl) rfl rfl ?_
    refine op_lenS (nxlf rfl) se31 rfl rfl ?_
    refine op_eql (nxlf rfl) rfl rfl rfl ?_
    refine At.opsNil ?_
    refine At.norm (hk_12 ?_)
    refine At.condP rfl (fun c26 => ?_) (fun c26 => ?_)
    · refine At.knowT (d := 26) rfl c26 ?_
      refine At.exit (At.thenExit (At.inHit ?_))
      refine At.norm (hk_8 ?_)
      refine At.region ?_
      refine op_addI (nxlf rfl) rfl rfl (by omega) (by omega) rfl ?_
      refine op_move (nxlf rfl) rfl rfl ?_
      refine At.opsNil ?_
      refine At.norm ?_
      refine At.sub (L' := [N5, N15, R]) (.cons _ (.cons_cons _ (.cons_cons _ (.cons_cons _ (.slnil))))) ?_
      refine At.back ?_ (.refl _) ⟨1, rfl, rfl, rfl, Nat.le_refl _⟩ ?_
      · exact .cons (by first | exact lkI rfl (by omega) | rfl) (.cons (by first | exact lkI rfl (by omega) | rfl) (.cons (by first | exact lkI rfl (by omega) | rfl) (.cons (by first | exact lkI rfl (by omega) | rfl) (.cons (by first | exact lkI rfl (by omega) | rfl) (.cons (by first | exact lkI rfl (by omega) | rfl) (.cons (by first | exact lkI rfl (by omega) | rfl) .nil))))))
      · omega
    · exact absurd rfl c26
  · refine At.knowF (d := 18) rfl c18 ?_
    refine At.exit (At.thenExit (At.thenExit (At.inHit ?_)))
    refine At.norm (hk_4 ?_)
    refine At.seq fun K13 hk_13 => ?_
    refine At.region ?_
    refine op_move (nxlf rfl) rfl rfl ?_
    refine op_build (out := [.int .i64 0, .int .i64 0]) (nxlf rfl) ze48 pl48 .nil rfl rfl ?_
    refine op_assign (nxlf rfl) rfl rfl ?_
    refine op_store (nxl rfl) sz48 rfl rfl rfl rfl rfl B5 (by simp) sel0 (fun N5 B5 => ?_)
    simp only [setL, List.set] at B5
    refine At.opsNil ?_
    refine At.norm (hk_13 ?_)
    refine At.ret (?_)
    refine At.empty ?_
    refine At.sub (L' := [nilH, N5, R]) (.cons_cons _ (.cons_cons _ (.cons _ (.cons_cons _ (.slnil))))) ?_
    refine At.perm sel2 ?_
    refine At.perm sel1 ?_
    refine At.perm sel2 ?_
    refine At.retN (L1 := [nilH]) rfl (.tmp rfl (.cell rfl (res_agg (ds := [_, _]) ag48 B5 rfl rfl mem0) .nil)) rfl (.cons _ (.refl _)) (.refl _) ?_
    exact ⟨nilH, none, 0, rfl, rfl, RSl.nil _ _⟩
set_option maxRecDepth 100000 in
set_option maxHeartbeats 2000000 in
theorem CRead_y (hT : TabH M) (f : Int) (l : List UInt8) (hl : l.length ≤ 3000) (h0 : 0 < l.length) : Fn Tryd.prog 24 #[.int .i64 f, str (joinN (listC f l))] [] [M] (CRdP l) := by
  have hxl := listC_len f l
  have hfeed := listF_feed f l.length l 0
  have hjl := joinN_len (listC f l) 120 (listF_le f l.length l 0 hl)
  have hx0 : listC f l = lineC f l 0 :: listAt f l (0 + 1 + ownC f l 0) := listAt_on h0
  have hro : rowsOf (listC f l) = listC f l := by rw [rowsOf, if_neg (by rw [hx0]; simp)]
  have hS := FSplit_f (xs := listC f l) hfeed (by omega) (by omega)
  rw [hro] at hS
  have hst : (listC f l).drop 0 = listAt f l 0 := rfl
  obtain ⟨xs, hxs⟩ : ∃ xs, listC f l = xs := ⟨_, rfl⟩
  rw [hxs] at hS hxl hjl hst ⊢
  refine Fn.enter (vs := [.int .i64 f, str (joinN xs)]) Tryd.func24 rfl rfl rfl ?_
  intro E R hR
  have hT := hT.le (hR M (by simp))
  change At _ _ E [R] _
  refine At.seq fun K1 hk_1 => ?_
  refine At.region ?_
  refine op_assign (nxlf rfl) rfl rfl ?_
  refine op_alloc (nxla rfl) ze48 rfl (fun N5 b5 B5 => ?_)
  change Blk N5 b5 _ [.int .i64 0, .int .i64 0] at B5
  change Blk N5 b5 _ [.int .i64 0, .int .i64 0] at B5
  refine At.opsNil ?_
  refine At.norm (hk_1 ?_)
  refine At.seq fun K2 hk_2 => ?_
  refine At.region ?_
  refine op_assign (nxlf rfl) rfl rfl ?_
  refine At.opsNil ?_
  refine At.norm (hk_2 ?_)
  refine At.seq fun K3 hk_3 => ?_
  refine At.region ?_
  refine op_assign (nxlf rfl) rfl rfl ?_
  refine At.opsNil ?_
  refine At.norm (hk_3 ?_)
  refine At.seq fun K4 hk_4 => ?_
  refine At.seq fun K5 hk_5 => ?_
  refine At.region ?_
  refine op_move (nxlf rfl) rfl rfl ?_
  refine op_callA (nxla rfl) (.cons rfl (.cons rfl .nil)) (hS) Tryd.func42 rfl rfl (by simp) rfl ?_
  rintro v15 L15 ⟨N15, a15, c15, rfl, rfl, r15⟩
  change At _ _ _ [N15, N5, R] _
  have s15 := r15.rsl
  refine op_lenS (nxlf rfl) se31 rfl rfl ?_
  refine op_move (nxlf rfl) rfl rfl ?_
  refine At.opsNil ?_
  refine At.norm (hk_5 ?_)
  refine At.block ?_
  refine At.empty ?_
  refine At.perm sel3 ?_
  refine At.perm sel1 ?_
  refine At.perm sel2 ?_
  refine At.perm sel3 ?_
  refine At.loop (fun fr_ hp_ ms_ => ∃ (i p m : Nat) (sh : Int) (a : Option Addr) (c : Nat) (Na : Heaplet), fr_ = [(0, .int .i64 f), (5, .pointer (some ⟨b5, 0, none⟩)), (6, .slice a m c), (7, .int .i64 sh), (15, .slice a15 xs.length c15), (16, .int .i64 (xs.length : Int)), (17, .int .i64 (i : Int))] ∧ hp_ = [N5, N15, Na, R] ∧ xs.length - i = ms_ ∧ (xs.drop i = listAt f l p) ∧ (m = min p l.length) ∧ (p ≤ l.length → sh = -1) ∧ (Row Na 5 1 a m c (u8s (l.take p)))) ?_ (.refl _) ⟨0, 0, 0, -1, none, 0, nilH, rfl, rfl, rfl, hst, by omega, fun _ => rfl, Row.nil _ _ _⟩ ?_
  · exact .cons (by first | exact lkI rfl (by omega) | rfl) (.cons (by first | exact lkI rfl (by omega) | rfl) (.cons (by first | exact lkI rfl (by omega) | rfl) (.cons (by first | exact lkI rfl (by omega) | rfl) (.cons (by first | exact lkI rfl (by omega) | rfl) (.cons (by first | exact lkI rfl (by omega) | rfl) (.cons (by first | exact lkI rfl (by omega) | rfl) .nil))))))
  rintro _ _ _ ⟨i, p, m, sh, a, c, Na, rfl, rfl, rfl, hd, hm, hsh, ra⟩
  refine At.seq fun K6 hk_6 => ?_
  refine At.region ?_
  refine op_lss (nxlf rfl) rfl rfl rfl ?_
  refine At.opsNil ?_
  refine At.norm (hk_6 ?_)
  refine At.seq fun K7 hk_7 => ?_
  refine At.condP rfl (fun c18 => ?_) (fun c18 => ?_)
  · refine At.knowT (d := 18) rfl c18 ?_
    have hlt : i < xs.length := by omega
    have hpl : p < l.length := by
      rcases Nat.lt_or_ge p l.length with h1 | h1
      · exact h1
      · rw [listAt_end h1] at hd
        have := congrArg List.length hd
        rw [List.length_drop, List.length_nil] at this
        omega
    have hshe := hsh (by omega)
    rw [listAt_on hpl] at hd
    obtain ⟨_, hrow, hd2⟩ := txs_row hd
    have hlle := line_le f l p (by omega)
    have hpie := pieC_len f l p
    have hcl := codeC_len f l p
    refine At.skip ?_
    refine At.norm (hk_7 ?_)
    refine At.seq fun K8 hk_8 => ?_
    refine At.block ?_
    refine At.seq fun K9 hk_9 => ?_
    refine At.region ?_
    refine op_move (nxlf rfl) rfl rfl ?_
    refine op_idx1 (nxlf rfl) se31 rfl rfl s15 (show _ = (((i : Nat)) : Int) from by omega) (by omega) rfl ?_
    refine op_loadE (nxlf rfl) sc9 rfl s15 (by first | exact get8 (by omega) | exact get64 (by omega) | exact get32 (by omega) | exact hrow) (by first | exact mem0 | exact mem1 | exact mem2 | exact mem3 | exact mem4 | exact mem5 | exact mem6 | exact mem7 | exact mem8 | exact mem9) rfl ?_
    refine op_assign (nxlf rfl) rfl rfl ?_
    refine op_assign (nxlf rfl) rfl rfl ?_
    refine At.opsNil ?_
    refine At.norm (hk_9 ?_)
    refine At.seq fun K10 hk_10 => ?_
    refine At.region ?_
    refine op_move (nxlf rfl) rfl rfl ?_
    refine op_callA (nxla rfl) (.cons rfl .nil) (HFields_f (s := lineC f l p) (by omega)) Tryd.func43 rfl rfl (by simp) rfl ?_
    rintro v23 L23 ⟨N23, a23, c23, rfl, rfl, r23⟩
    change At _ _ _ [N23, N5, N15, Na, R] _
    rw [fields_line] at r23 ⊢; have s23 := r23.rsl
    refine op_assign (nxlf rfl) rfl rfl ?_
    refine At.opsNil ?_
    refine At.norm (hk_10 ?_)
    refine At.seq fun K11 hk_11 => ?_
    refine At.seq fun K12 hk_12 => ?_
    refine At.region ?_
    refine op_move (nxlf rfl) rfl rfl ?_
    refine op_lenS (nxlf rfl) se31 rfl rfl ?_
    refine op_eql (nxlf rfl) rfl rfl rfl ?_
    refine At.opsNil ?_
    refine At.norm (hk_12 ?_)
    refine At.condP rfl (fun c26 => ?_) (fun c26 => ?_)
    · exfalso; omega
    · refine At.knowF (d := 26) rfl c26 ?_
      refine At.skip ?_
      refine At.norm (hk_11 ?_)
      refine At.seq fun K13 hk_13 => ?_
      refine At.seq fun K14 hk_14 => ?_
      refine At.region ?_
      refine op_move (nxlf rfl) rfl rfl ?_
      refine op_geq (nxlf rfl) rfl rfl rfl ?_
      refine At.opsNil ?_
      refine At.norm (hk_14 ?_)
      refine At.condP rfl (fun c28 => ?_) (fun c28 => ?_)
      · exfalso; omega
      · refine At.knowF (d := 28) rfl c28 ?_
        refine At.skip ?_
        refine At.norm (hk_13 ?_)
        refine At.seq fun K15 hk_15 => ?_
        refine At.region ?_
        refine op_move (nxlf rfl) rfl rfl ?_
        refine op_move (nxlf rfl) rfl rfl ?_
        refine op_callA (nxla rfl) (.cons rfl (.cons rfl .nil)) (FLineC_f hT f l p hpl s23) Tryd.func44 rfl rfl (by simp) rfl ?_
        rintro v34 L34 ⟨N34, a34, c34, rfl, rfl, s34⟩
        change At _ _ _ [N34, N23, N5, N15, Na, R] _
        refine op_move (nxlf rfl) rfl rfl ?_
        refine op_extract (nxlf rfl) rfl rfl rfl ?_
        refine op_extract (nxlf rfl) rfl rfl rfl ?_
        refine op_extract (nxlf rfl) rfl rfl rfl ?_
        refine op_assign (nxlf rfl) rfl rfl ?_
        refine op_assign (nxlf rfl) rfl rfl ?_
        refine op_assign (nxlf rfl) rfl rfl ?_
        refine At.opsNil ?_
        refine At.norm (hk_15 ?_)
        refine At.seq fun K16 hk_16 => ?_
        refine At.seq fun K17 hk_17 => ?_
        refine At.region ?_
        refine op_move (nxlf rfl) rfl rfl ?_
        refine op_not (nxlf rfl) rfl rfl ?_
        refine At.opsNil ?_
        refine At.norm (hk_17 ?_)
        refine At.condF rfl ?_
        refine At.skip ?_
        refine At.norm (hk_16 ?_)
        refine At.seq fun K18 hk_18 => ?_
        refine At.seq fun K19 hk_19 => ?_
        refine At.region ?_
        refine op_move (nxlf rfl) rfl rfl ?_
        refine op_gtr (nxlf rfl) rfl rfl rfl ?_
        refine At.opsNil ?_
        refine At.norm (hk_19 ?_)
        refine At.condP rfl (fun c43 => ?_) (fun c43 => ?_)
        · refine At.knowT (d := 43) rfl c43 ?_
          refine At.region ?_
          refine op_move (nxlf rfl) rfl rfl ?_
          refine op_assign (nxlf rfl) rfl rfl ?_
          refine At.opsNil ?_
          refine At.norm (hk_18 ?_)
          refine At.region ?_
          refine op_move (nxlf rfl) rfl rfl ?_
          refine op_move (nxlf rfl) rfl rfl ?_
          refine op_append (nxl rfl) Tryd.underlying22 Tryd.underlying22 te5 rfl rfl ra s34 (by first | exact mem0 | exact mem1 | exact mem2 | exact mem3 | exact mem4 | exact mem5 | exact mem6 | exact mem7 | exact mem8 | exact mem9) (by first | exact one_u8s _ | exact one_u64s _ | exact one_u32s _ | (intro u hu; simp at hu; subst hu; rfl)) (by omega) (by omega) sel4 rfl (fun N47 a47 p47 r47 => ?_)
          have s47 := r47.rsl
          have r47 : Row N47 5 1 a47 (m + (codeC f l p).length) p47 (u8s (l.take (p + 1 + ownC f l p))) := by
            rw [← take_code f l p, show u8s (l.take p ++ codeC f l p) = u8s (l.take p) ++ u8s (codeC f l p) by simp [u8s]]
            exact r47
          refine op_assign (nxlf rfl) rfl rfl ?_
          refine At.opsNil ?_
          refine At.inNorm ?_
          refine At.norm (hk_8 ?_)
          refine At.region ?_
          refine op_addI (nxlf rfl) rfl rfl (by omega) (by omega) rfl ?_
          refine op_move (nxlf rfl) rfl rfl ?_
          refine At.opsNil ?_
          refine At.norm ?_
          refine At.sub (L' := [N47, N5, N15, R]) (.cons_cons _ (.cons _ (.cons _ (.cons_cons _ (.cons_cons _ (.cons_cons _ (.slnil))))))) ?_
          refine At.perm sel3 ?_
          refine At.perm sel1 ?_
          refine At.perm sel3 ?_
          refine At.perm sel3 ?_
          refine At.back ?_ (.refl _) ⟨i + 1, p + 1 + ownC f l p, m + (codeC f l p).length, (i : Int), a47, p47, N47, rfl, rfl, rfl, hd2, by omega, fun h => (by omega), r47⟩ ?_
          · exact .cons (by first | exact lkI rfl (by omega) | rfl) (.cons (by first | exact lkI rfl (by omega) | rfl) (.cons (by first | exact lkI rfl (by omega) | rfl) (.cons (by first | exact lkI rfl (by omega) | rfl) (.cons (by first | exact lkI rfl (by omega) | rfl) (.cons (by first | exact lkI rfl (by omega) | rfl) (.cons (by first | exact lkI rfl (by omega) | rfl) .nil))))))
          · omega
        · refine At.knowF (d := 43) rfl c43 ?_
          refine At.skip ?_
          refine At.norm (hk_18 ?_)
          refine At.region ?_
          refine op_move (nxlf rfl) rfl rfl ?_
          refine op_move (nxlf rfl) rfl rfl ?_
          refine op_append (nxl rfl) Tryd.underlying22 Tryd.underlying22 te5 rfl rfl ra s34 (by first | exact mem0 | exact mem1 | exact mem2 | exact mem3 | exact mem4 | exact mem5 | exact mem6 | exact mem7 | exact mem8 | exact mem9) (by first | exact one_u8s _ | exact one_u64s _ | exact one_u32s _ | (intro u hu; simp at hu; subst hu; rfl)) (by omega) (by omega) sel4 rfl (fun N47 a47 p47 r47 => ?_)
          have s47 := r47.rsl
          have r47 : Row N47 5 1 a47 (m + (codeC f l p).length) p47 (u8s (l.take (p + 1 + ownC f l p))) := by
            rw [← take_code f l p, show u8s (l.take p ++ codeC f l p) = u8s (l.take p) ++ u8s (codeC f l p) by simp [u8s]]
            exact r47
          refine op_assign (nxlf rfl) rfl rfl ?_
          refine At.opsNil ?_
          refine At.inNorm ?_
          refine At.norm (hk_8 ?_)
          refine At.region ?_
          refine op_addI (nxlf rfl) rfl rfl (by omega) (by omega) rfl ?_
          refine op_move (nxlf rfl) rfl rfl ?_
          refine At.opsNil ?_
          refine At.norm ?_
          refine At.sub (L' := [N47, N5, N15, R]) (.cons_cons _ (.cons _ (.cons _ (.cons_cons _ (.cons_cons _ (.cons_cons _ (.slnil))))))) ?_
          refine At.perm sel3 ?_
          refine At.perm sel1 ?_
          refine At.perm sel3 ?_
          refine At.perm sel3 ?_
          refine At.back ?_ (.refl _) ⟨i + 1, p + 1 + ownC f l p, m + (codeC f l p).length, sh, a47, p47, N47, rfl, rfl, rfl, hd2, by omega, fun h => hsh (by omega), r47⟩ ?_
          · exact .cons (by first | exact lkI rfl (by omega) | rfl) (.cons (by first | exact lkI rfl (by omega) | rfl) (.cons (by first | exact lkI rfl (by omega) | rfl) (.cons (by first | exact lkI rfl (by omega) | rfl) (.cons (by first | exact lkI rfl (by omega) | rfl) (.cons (by first | exact lkI rfl (by omega) | rfl) (.cons (by first | exact lkI rfl (by omega) | rfl) .nil))))))
          · omega
  · refine At.knowF (d := 18) rfl c18 ?_
    have hge : l.length ≤ p := by
      rcases Nat.lt_or_ge p l.length with h1 | h1
      · rw [listAt_on h1, List.drop_eq_nil_of_le (by omega)] at hd
        cases hd
      · exact h1
    rw [List.take_of_length_le hge] at ra
    have hml : m = l.length := by omega
    refine At.exit (At.thenExit (At.thenExit (At.inHit ?_)))
    refine At.norm (hk_4 ?_)
    refine At.seq fun K20 hk_20 => ?_
    refine At.region ?_
    refine op_move (nxlf rfl) rfl rfl ?_
    refine op_build (out := [.int .i64 0, .int .i64 0]) (nxlf rfl) ze48 pl48 .nil rfl rfl ?_
    refine op_assign (nxlf rfl) rfl rfl ?_
    refine op_store (nxl rfl) sz48 rfl rfl rfl rfl rfl B5 (by simp) sel0 (fun N5 B5 => ?_)
    simp only [setL, List.set] at B5
    refine At.opsNil ?_
    refine At.norm (hk_20 ?_)
    refine At.ret (?_)
    refine At.sub (L' := [N5, Na, R]) (.cons_cons _ (.cons _ (.cons_cons _ (.cons_cons _ (.slnil))))) ?_
    refine At.retN (L1 := [Na]) rfl (.tmp rfl (.cell rfl (res_agg (ds := [_, _]) ag48 B5 rfl rfl mem0) .nil)) rfl (.cons _ (.refl _)) (.refl _) ?_
    exact ⟨Na, a, c, by rw [hml]; rfl, rfl, by rw [← hml]; exact ra.rsl⟩
theorem CRead_f (hT : TabH M) (f : Int) (l : List UInt8) (hl : l.length ≤ 3000) : Fn Tryd.prog 24 #[.int .i64 f, str (joinN (listC f l))] [] [M] (CRdP l) := by
  rcases Nat.eq_zero_or_pos l.length with h0 | h0
  · have e : l = [] := List.eq_nil_of_length_eq_zero h0
    subst e
    exact (CRead_0 f).more (by simp)
  · exact CRead_y hT f l hl h0
end
end Go.Proofs.YtdplcfineaikjaaDoor
/- Codes: may be jumped there, by the program and by the reference. Condition: at most 2^40 bytes. -/
namespace Go.Proofs.YtdplcfineaikjaaDoor
set_option linter.unusedVariables false
set_option linter.unusedSimpArgs false
open Go Go.RowKit
def jumpV (l : List UInt8) (s : UInt64 × Bool) : Bool := decide (s.2 = true ∧ s.1.toNat ∈ jumpsOf l)
section
variable {N : Heaplet} {ao : Option Addr} {n cap : Nat} {l : List UInt8}
theorem jv_no {l : List UInt8} {s : UInt64 × Bool} (h : s.2 = true → s.1.toNat ∉ jumpsOf l) : jumpV l s = false := decide_eq_false fun e => h e.1 e.2
theorem jv_eq {l : List UInt8} {s : UInt64 × Bool} (h : s.2 = true) : jumpV l s = decide (s.1.toNat ∈ jumpsOf l) := by
  unfold jumpV
  exact decide_eq_decide.2 ⟨fun e => e.2, fun e => ⟨h, e⟩⟩
set_option maxRecDepth 100000 in
theorem FJump_f (h : RSl N 1 ao n cap (u8s l)) (hn : n ≤ 1099511627776) (a b c d : UInt64) : Fn Tryd.prog 11 #[.slice ao n cap, w4 a b c d] [] [N] (fun v L => v = .bool (jumpV l (small4 a b c d)) ∧ L = []) := by
  have hlen := h.len8
  have hS := WSmall4_f a b c d
  have hjl := jumps_len l
  generalize small4 a b c d = z at hS ⊢
  obtain ⟨s, ok⟩ := z
  simp only at hS
  have hs64 := s.toNat_lt
  have hnn : (UInt64.ofNat n).toNat = n := by rw [UInt64.toNat_ofNat']; omega
  refine Fn.enter (vs := [.slice ao n cap, w4 a b c d]) Tryd.func11 rfl rfl rfl ?_
  intro E R hR
  have h := h.le (hR N (by simp))
  change At _ _ E [R] _
  refine At.seq fun K1 hk_1 => ?_
  refine At.region ?_
  refine op_box (nxla rfl) rfl rfl rfl (fun N3 b3 B3 => ?_)
  refine op_assign (nxlf rfl) rfl rfl ?_
  refine At.opsNil ?_
  refine At.norm (hk_1 ?_)
  refine At.seq fun K2 hk_2 => ?_
  refine At.region ?_
  refine op_loadAggB (ds := [_, _, _, _]) (nxlf rfl) ag25 rfl B3 rfl rfl mem0 rfl ?_
  refine op_callA (nxla rfl) (.cons rfl .nil) (hS) Tryd.func28 rfl rfl (by simp) rfl ?_
  rintro v11 L11 ⟨rfl, rfl⟩
  change At _ _ _ [N3, R] _
  refine op_move (nxlf rfl) rfl rfl ?_
  refine op_extract (nxlf rfl) rfl rfl rfl ?_
  refine op_extract (nxlf rfl) rfl rfl rfl ?_
  refine op_assign (nxlf rfl) rfl rfl ?_
  refine op_assign (nxlf rfl) rfl rfl ?_
  refine At.opsNil ?_
  refine At.norm (hk_2 ?_)
  refine At.seq fun K3 hk_3 => ?_
  refine At.seq fun K4 hk_4 => ?_
  refine At.region ?_
  refine op_move (nxlf rfl) rfl rfl ?_
  refine op_not (nxlf rfl) rfl rfl ?_
  refine op_move (nxlf rfl) rfl rfl ?_
  refine At.part (d := 16) rfl (fun g16 => ?_) (fun g16 => ?_)
  · have hv : jumpV l (s, ok) = false := jv_no fun e => by rw [show ok = true from e] at g16; cases g16
    refine op_skip rfl rfl rfl rfl rfl rfl rfl ?_
    refine op_skip rfl rfl rfl rfl rfl rfl rfl ?_
    refine op_skip rfl rfl rfl rfl rfl rfl rfl ?_
    refine op_skip rfl rfl rfl rfl rfl rfl rfl ?_
    refine op_skip rfl rfl rfl rfl rfl rfl rfl ?_
    refine op_pickT (nxlf rfl) rfl rfl rfl ?_
    refine At.opsNil ?_
    refine At.norm (hk_4 ?_)
    refine At.condT rfl ?_
    refine At.seq fun K5 hk_5 => ?_
    refine At.region ?_
    refine op_assign (nxlf rfl) rfl rfl ?_
    refine At.opsNil ?_
    refine At.norm (hk_5 ?_)
    refine At.ret (At.thenRet (?_))
    refine At.sub (L' := [R]) (.cons _ (.cons_cons _ (.slnil))) ?_
    refine At.ret1 (L1 := []) rfl (.tmp rfl .nil) (.refl _) (.refl _) ?_
    exact ⟨by rw [hv], rfl⟩
  · have hok : ok = true := by cases ok <;> simp_all
    refine op_move (nxgf rfl rfl rfl rfl) rfl rfl ?_
    refine op_move (nxgf rfl rfl rfl rfl) rfl rfl ?_
    refine op_lenS (nxgf rfl rfl rfl rfl) se22 rfl rfl ?_
    refine op_conv64 (nxgf rfl rfl rfl rfl) (und_some Tryd.underlying3) Tryd.underlying23 rfl (show _ = (((n : Nat)) : Int) from by omega) rfl ?_
    refine op_geq (nxgf rfl rfl rfl rfl) rfl rfl rfl ?_
    refine op_pickF (nxlf rfl) rfl rfl rfl ?_
    refine At.opsNil ?_
    refine At.norm (hk_4 ?_)
    refine At.condP rfl (fun c22 => ?_) (fun c22 => ?_)
    · have hv : jumpV l (s, ok) = false := jv_no fun _ hm => by have e1 : s.toNat < l.length := (jumps_mem hm).1; omega
      refine At.seq fun K6 hk_6 => ?_
      refine At.region ?_
      refine op_assign (nxlf rfl) rfl rfl ?_
      refine At.opsNil ?_
      refine At.norm (hk_6 ?_)
      refine At.ret (At.thenRet (?_))
      refine At.sub (L' := [R]) (.cons _ (.cons_cons _ (.slnil))) ?_
      refine At.ret1 (L1 := []) rfl (.tmp rfl .nil) (.refl _) (.refl _) ?_
      exact ⟨by rw [hv], rfl⟩
    · refine At.skip ?_
      refine At.norm (hk_3 ?_)
      refine At.seq fun K7 hk_7 => ?_
      refine At.region ?_
      refine op_move (nxlf rfl) rfl rfl ?_
      refine op_callA (nxla rfl) (.cons rfl .nil) (FJumps_f h hn) Tryd.func9 rfl rfl (by simp) rfl ?_
      rintro v25 L25 ⟨N25, a25, k25, rfl, rfl, r25⟩
      change At _ _ _ [N25, N3, R] _
      refine op_move (nxlf rfl) rfl rfl ?_
      refine op_convI (nxlf rfl) (und_some Tryd.underlying23) Tryd.underlying3 rfl (by omega) (by omega) rfl ?_
      refine op_callA (nxla rfl) (.cons rfl (.cons rfl .nil)) (BinS_f r25.rsl (jumps_sorted l) (by omega) s.toNat) Tryd.func29 rfl rfl (by simp) rfl ?_
      rintro v28 L28 ⟨⟨k28, rfl⟩, rfl⟩
      change At _ _ _ [N25, N3, R] _
      refine op_move (nxlf rfl) rfl rfl ?_
      refine op_extract (nxlf rfl) rfl rfl rfl ?_
      refine op_extract (nxlf rfl) rfl rfl rfl ?_
      refine op_assign (nxlf rfl) rfl rfl ?_
      refine op_assign (nxlf rfl) rfl rfl ?_
      refine At.opsNil ?_
      refine At.norm (hk_7 ?_)
      refine At.seq fun K8 hk_8 => ?_
      refine At.region ?_
      refine op_move (nxlf rfl) rfl rfl ?_
      refine op_assign (nxlf rfl) rfl rfl ?_
      refine At.opsNil ?_
      refine At.norm (hk_8 ?_)
      refine At.ret (?_)
      refine At.sub (L' := [R]) (.cons _ (.cons _ (.cons_cons _ (.slnil)))) ?_
      refine At.ret1 (L1 := []) rfl (.tmp rfl .nil) (.refl _) (.refl _) ?_
      exact ⟨by rw [jv_eq hok], rfl⟩
set_option maxRecDepth 100000 in
theorem rJump_f (h : RSl N 1 ao n cap (u8s l)) (hn : n ≤ 1099511627776) (a b c d : UInt64) : Fn Tryd.prog 12 #[.slice ao n cap, w4 a b c d] [] [N] (fun v L => v = .bool (jumpV l (small4 a b c d)) ∧ L = []) := by
  have hlen := h.len8
  have hS := rSmall4_f a b c d
  have hjl := jumps_len l
  generalize small4 a b c d = z at hS ⊢
  obtain ⟨s, ok⟩ := z
  simp only at hS
  have hs64 := s.toNat_lt
  refine Fn.enter (vs := [.slice ao n cap, w4 a b c d]) Tryd.func12 rfl rfl rfl ?_
  intro E R hR
  have h := h.le (hR N (by simp))
  change At _ _ E [R] _
  refine At.seq fun K1 hk_1 => ?_
  refine At.region ?_
  refine op_box (nxla rfl) rfl rfl rfl (fun N3 b3 B3 => ?_)
  refine op_assign (nxlf rfl) rfl rfl ?_
  refine At.opsNil ?_
  refine At.norm (hk_1 ?_)
  refine At.seq fun K2 hk_2 => ?_
  refine At.region ?_
  refine op_loadAggB (ds := [_, _, _, _]) (nxlf rfl) ag25 rfl B3 rfl rfl mem0 rfl ?_
  refine op_callA (nxla rfl) (.cons rfl .nil) (hS) Tryd.func30 rfl rfl (by simp) rfl ?_
  rintro v11 L11 ⟨rfl, rfl⟩
  change At _ _ _ [N3, R] _
  refine op_move (nxlf rfl) rfl rfl ?_
  refine op_extract (nxlf rfl) rfl rfl rfl ?_
  refine op_extract (nxlf rfl) rfl rfl rfl ?_
  refine op_assign (nxlf rfl) rfl rfl ?_
  refine op_assign (nxlf rfl) rfl rfl ?_
  refine At.opsNil ?_
  refine At.norm (hk_2 ?_)
  refine At.seq fun K3 hk_3 => ?_
  refine At.region ?_
  refine op_move (nxlf rfl) rfl rfl ?_
  refine op_callA (nxla rfl) (.cons rfl .nil) (rJumps_f h hn) Tryd.func10 rfl rfl (by simp) rfl ?_
  rintro v15 L15 ⟨N15, a15, k15, rfl, rfl, r15⟩
  change At _ _ _ [N15, N3, R] _
  have s15 := r15.rsl
  refine op_assign (nxlf rfl) rfl rfl ?_
  refine At.opsNil ?_
  refine At.norm (hk_3 ?_)
  refine At.seq fun K4 hk_4 => ?_
  refine At.seq fun K5 hk_5 => ?_
  refine At.region ?_
  refine op_assign (nxlf rfl) rfl rfl ?_
  refine At.opsNil ?_
  refine At.norm (hk_5 ?_)
  refine At.block ?_
  refine At.sub (L' := [N15, R]) (.cons_cons _ (.cons _ (.cons_cons _ (.slnil)))) ?_
  refine At.loop (fun fr_ hp_ ms_ => ∃ (i : Nat), fr_ = [(5, .int .u64 (s.toNat : Int)), (6, .bool ok), (7, .slice a15 (jumpsOf l).length k15), (8, .int .i64 (i : Int))] ∧ hp_ = [N15, R] ∧ (jumpsOf l).length - i = ms_ ∧ (i ≤ (jumpsOf l).length) ∧ (ok = true → ∀ j, j < i → (jumpsOf l).getD j 0 ≠ s.toNat)) ?_ (.refl _) ⟨0, rfl, rfl, rfl, Nat.zero_le _, fun _ j hj => absurd hj (Nat.not_lt_zero _)⟩ ?_
  · exact .cons (by first | exact lkI rfl (by omega) | rfl) (.cons (by first | exact lkI rfl (by omega) | rfl) (.cons (by first | exact lkI rfl (by omega) | rfl) (.cons (by first | exact lkI rfl (by omega) | rfl) .nil)))
  rintro _ _ _ ⟨i, rfl, rfl, rfl, hi, hno⟩
  refine At.seq fun K6 hk_6 => ?_
  refine At.seq fun K7 hk_7 => ?_
  refine At.region ?_
  refine op_move (nxlf rfl) rfl rfl ?_
  refine op_move (nxlf rfl) rfl rfl ?_
  refine op_lenS (nxlf rfl) se27 rfl rfl ?_
  refine op_lss (nxlf rfl) rfl rfl rfl ?_
  refine At.opsNil ?_
  refine At.norm (hk_7 ?_)
  refine At.condP rfl (fun c19 => ?_) (fun c19 => ?_)
  · have hx : (jumpsOf l).getD i 0 < n := by have := (jumps_mem (getD_mem (show i < (jumpsOf l).length by omega))).1; omega
    have hxx : (UInt64.ofNat ((jumpsOf l).getD i 0)).toNat = (jumpsOf l).getD i 0 := by rw [UInt64.toNat_ofNat']; omega
    refine At.skip ?_
    refine At.norm (hk_6 ?_)
    refine At.seq fun K8 hk_8 => ?_
    refine At.block ?_
    refine At.seq fun K9 hk_9 => ?_
    refine At.region ?_
    refine op_move (nxlf rfl) rfl rfl ?_
    refine op_move (nxlf rfl) rfl rfl ?_
    refine At.part (d := 23) rfl (fun g23 => ?_) (fun g23 => ?_)
    · refine op_move (nxgf rfl rfl rfl rfl) rfl rfl ?_
      refine op_move (nxgf rfl rfl rfl rfl) rfl rfl ?_
      refine op_idx1 (nxgf rfl rfl rfl rfl) se27 rfl rfl s15 (show _ = (((i : Nat)) : Int) from by omega) (by omega) rfl ?_
      refine op_loadE (nxgf rfl rfl rfl rfl) sc3 rfl s15 (by first | exact get8 (by omega) | exact get64 (by omega) | exact get32 (by omega) | exact ints_get (by omega)) (by first | exact mem0 | exact mem1 | exact mem2 | exact mem3 | exact mem4 | exact mem5 | exact mem6 | exact mem7 | exact mem8 | exact mem9) rfl ?_
      refine op_conv64 (nxgf rfl rfl rfl rfl) (und_some Tryd.underlying3) Tryd.underlying23 rfl (show _ = ((((jumpsOf l).getD i 0 : Nat)) : Int) from by omega) rfl ?_
      refine op_move (nxgf rfl rfl rfl rfl) rfl rfl ?_
      refine op_eql (nxgf rfl rfl rfl rfl) rfl rfl rfl ?_
      refine op_pickT (nxlf rfl) rfl rfl rfl ?_
      refine At.opsNil ?_
      refine At.norm (hk_9 ?_)
      refine At.condP rfl (fun c31 => ?_) (fun c31 => ?_)
      · refine At.seq fun K10 hk_10 => ?_
        refine At.region ?_
        refine op_assign (nxlf rfl) rfl rfl ?_
        refine At.opsNil ?_
        refine At.norm (hk_10 ?_)
        refine At.ret (At.inRet (At.thenRet (At.thenRet (At.inRet (At.thenRet (?_))))))
        refine At.sub (L' := [R]) (.cons _ (.cons_cons _ (.slnil))) ?_
        refine At.ret1 (L1 := []) rfl (.tmp rfl .nil) (.refl _) (.refl _) ?_
        have hm : s.toNat ∈ jumpsOf l := by
          have e : (jumpsOf l).getD i 0 = s.toNat := by omega
          rw [← e]
          exact getD_mem (by omega)
        exact ⟨by rw [jv_eq g23, decide_eq_true hm], rfl⟩
      · refine At.skip ?_
        refine At.inNorm ?_
        refine At.norm (hk_8 ?_)
        refine At.region ?_
        refine op_move (nxlf rfl) rfl rfl ?_
        refine op_addI (nxlf rfl) rfl rfl (by omega) (by omega) rfl ?_
        refine op_assign (nxlf rfl) rfl rfl ?_
        refine At.opsNil ?_
        refine At.norm ?_
        refine At.back ?_ (.refl _) ⟨i + 1, rfl, rfl, rfl, by omega, fun e j hj => by
          rcases Nat.lt_or_ge j i with hlt | hge
          · exact hno e j hlt
          · obtain rfl : j = i := by omega
            intro he
            first | (rw [e] at g23; cases g23; done) | (rw [hxx, he] at c31; exact c31 rfl)⟩ ?_
        · exact .cons (by first | exact lkI rfl (by omega) | rfl) (.cons (by first | exact lkI rfl (by omega) | rfl) (.cons (by first | exact lkI rfl (by omega) | rfl) (.cons (by first | exact lkI rfl (by omega) | rfl) .nil)))
        · omega
    · refine op_skip rfl rfl rfl rfl rfl rfl rfl ?_
      refine op_skip rfl rfl rfl rfl rfl rfl rfl ?_
      refine op_skip rfl rfl rfl rfl rfl rfl rfl ?_
      refine op_skip rfl rfl rfl rfl rfl rfl rfl ?_
      refine op_skip rfl rfl rfl rfl rfl rfl rfl ?_
      refine op_skip rfl rfl rfl rfl rfl rfl rfl ?_
      refine op_skip rfl rfl rfl rfl rfl rfl rfl ?_
      refine op_pickF (nxlf rfl) rfl rfl rfl ?_
      refine At.opsNil ?_
      refine At.norm (hk_9 ?_)
      refine At.condF rfl ?_
      refine At.skip ?_
      refine At.inNorm ?_
      refine At.norm (hk_8 ?_)
      refine At.region ?_
      refine op_move (nxlf rfl) rfl rfl ?_
      refine op_addI (nxlf rfl) rfl rfl (by omega) (by omega) rfl ?_
      refine op_assign (nxlf rfl) rfl rfl ?_
      refine At.opsNil ?_
      refine At.norm ?_
      refine At.back ?_ (.refl _) ⟨i + 1, rfl, rfl, rfl, by omega, fun e j hj => by
        rcases Nat.lt_or_ge j i with hlt | hge
        · exact hno e j hlt
        · obtain rfl : j = i := by omega
          intro he
          first | (rw [e] at g23; cases g23; done) | (rw [hxx, he] at c31; exact c31 rfl)⟩ ?_
      · exact .cons (by first | exact lkI rfl (by omega) | rfl) (.cons (by first | exact lkI rfl (by omega) | rfl) (.cons (by first | exact lkI rfl (by omega) | rfl) (.cons (by first | exact lkI rfl (by omega) | rfl) .nil)))
      · omega
  · have hv : jumpV l (s, ok) = false := jv_no fun e hm => by
      obtain ⟨j, hj, he⟩ := List.mem_iff_getElem.1 hm
      refine hno e j (by omega) ?_
      rw [List.getD_eq_getElem?_getD, List.getElem?_eq_getElem hj]
      exact he
    refine At.exit (At.thenExit (At.thenExit (At.inHit ?_)))
    refine At.norm (hk_4 ?_)
    refine At.seq fun K11 hk_11 => ?_
    refine At.region ?_
    refine op_assign (nxlf rfl) rfl rfl ?_
    refine At.opsNil ?_
    refine At.norm (hk_11 ?_)
    refine At.ret (?_)
    refine At.sub (L' := [R]) (.cons _ (.cons_cons _ (.slnil))) ?_
    refine At.ret1 (L1 := []) rfl (.tmp rfl .nil) (.refl _) (.refl _) ?_
    exact ⟨by rw [hv], rfl⟩
end
end Go.Proofs.YtdplcfineaikjaaDoor
/- The engine, arrays of words: what is read and written at a place. For whatever program. No condition. -/
namespace Go.Proofs.YtdplcfineaikjaaDoor
set_option linter.unusedVariables false
set_option linter.unusedSimpArgs false
open Go Go.RowKit
theorem get64A {bs : List UInt64} {j : Nat} (h : j < bs.length) : (u64s bs)[0 + j * 1]? = some (.int .u64 ((bs.getD j 0).toNat : Int)) := by rw [Nat.zero_add, Nat.mul_one]; exact get64 h
theorem get32A {bs : List UInt32} {j : Nat} (h : j < bs.length) : (u32s bs)[0 + j * 1]? = some (.int .u32 ((bs.getD j 0).toNat : Int)) := by rw [Nat.zero_add, Nat.mul_one]; exact get32 h
theorem get8A {bs : List UInt8} {j : Nat} (h : j < bs.length) : (u8s bs)[0 + j * 1]? = some (.int .u8 ((bs.getD j 0).toNat : Int)) := by rw [Nat.zero_add, Nat.mul_one]; exact get8 h
theorem set64A (l : List UInt64) (j : Nat) (x : UInt64) : setL (u64s l) (0 + j * 1) [.int .u64 (x.toNat : Int)] = u64s (l.set j x) := by rw [Nat.zero_add, Nat.mul_one, setL, setL, set_u64s]
theorem set32A (l : List UInt32) (j : Nat) (x : UInt32) : setL (u32s l) (0 + j * 1) [.int .u32 (x.toNat : Int)] = u32s (l.set j x) := by rw [Nat.zero_add, Nat.mul_one, setL, setL, set_u32s]
theorem set8A (l : List UInt8) (j : Nat) (x : UInt8) : setL (u8s l) (0 + j * 1) [.int .u8 (x.toNat : Int)] = u8s (l.set j x) := by rw [Nat.zero_add, Nat.mul_one, setL, setL, set_u8s]
theorem four {α : Type} {l : List α} (h : l.length = 4) : ∃ a b c d, l = [a, b, c, d] := by
  match l, h with
  | [a, b, c, d], _ => exact ⟨a, b, c, d, rfl⟩
/-- A word of four limbs as a value. -/
def wv (l : List UInt64) : Value := .agg (u64s l).toArray
theorem eq_words4 {l m : List UInt64} (hl : l.length = 4) (hm : m.length = 4) (h : v64 l = v64 m) : l = m := v64_inj (by omega) h
section
variable {P : Program} {n : Nat} {l : List (Nat × Value)} {E : World} {L Ls : List Heaplet} {X Y : Act → World → Prop} {d : Nat} {t ty e : TypeId} {x y : Operand}
theorem op_buildA {alen size : Nat} {parts : List (Nat × Operand)} {vs : List (Nat × Value)} {zs out : List Value} {pos : _} {aft : _} {g : _} (s : NxF P n l E L Ls ⟨some d, .build t parts.toArray, ty, pos, aft, g⟩ X Y) (hz : zer P t = some (.agg zs.toArray)) (hp : aelt P t = some (alen, e, size)) (hv : Pts l parts vs) (ho : fillL ((List.range alen).map fun i => (i * size, size)) zs vs = some out) (hn : Nat.ble (d + 1) n = true) (h : At n ((d, .agg out.toArray) :: l) E L Y) : At n l E L X :=
  op_val s (fun a w hf hw => by
    obtain ⟨i, hi, hiz⟩ := Option.bind_eq_some_iff.1 hz
    obtain ⟨hu, j, hj, hjs⟩ := aelt_spec hp
    have hzr : (zeroValue t).run P w = .ok (.agg zs.toArray) w := by simp [zeroValue, typeInfo, hi, hiz]
    have hfill := fill_fillL (place := fun i => some (i * size, size)) (fun i o h => by
      rw [List.getElem?_map] at h
      obtain ⟨k, hk, rfl⟩ := Option.map_eq_some_iff.1 h
      obtain ⟨_, rfl⟩ := List.getElem?_eq_some_iff.1 hk
      simp) vs zs out ho
    have hpv : (parts.toArray.map fun (x : Nat × Operand) => (x.1, a.eval x.2)) = vs.toArray := by rw [List.map_toArray, hv.map hf]
    have hb : (Instr.build t vs.toArray).run P w = .ok (.agg out.toArray) w := by
      unfold Instr.build
      rw [Sem.run_bind, hzr]
      simp only [Result.andThen_ok]
      rw [Sem.run_bind, run_underlying hu]
      simp only [Result.andThen_ok]
      rw [Sem.run_bind, run_sizeOf hj, hjs]
      simp only [Result.andThen_ok, Value.cells, hfill, Sem.run_pure]
    show ((do pure (.value (← Instr.build t (parts.toArray.map fun (x : Nat × Operand) => (x.1, a.eval x.2)))) : Sem Next)).run P w = _
    rw [hpv, Sem.run_bind, hb]
    rfl) rfl hn h
theorem op_idxV {alen j : Nat} {k : IntKind} {p : Int} {v : Value} {cs : Array Value} {pos : _} {aft : _} {g : _} (s : NxF P n l E L Ls ⟨some d, .index t x y, ty, pos, aft, g⟩ X Y) (ht : aelt P t = some (alen, e, 1)) (he : scal P e = true) (hx : ev l x = some (.agg cs)) (hy : ev l y = some (.int k p)) (hj : p = (j : Int)) (hlt : j < alen) (hc : cs[j]? = some v) (hn : Nat.ble (d + 1) n = true) (h : At n ((d, v) :: l) E L Y) : At n l E L X := by
  obtain ⟨hu, i, hi, hsz⟩ := aelt_spec ht
  refine op_val s (fun a w hf hw => ?_) rfl hn h
  subst hj
  simp only [execOp, hf.eval hx, hf.eval hy, Instr.index, asIntOf, Sem.run_bind, Sem.run_pure, Result.andThen_ok, run_underlying hu]
  have h0 : (0 : Int) ≤ (j : Int) ∧ (j : Int) < (alen : Int) := by omega
  simp only [if_pos h0, Sem.run_bind, run_sizeOf hi, hsz, Result.andThen_ok, Int.toNat_natCast, Nat.mul_one]
  simp only [part, Sem.run_bind]
  rw [run_isAgg_scal he]
  simp only [Result.andThen_ok, Bool.false_eq_true, if_false, hc, Sem.run_pure]
end
end Go.Proofs.YtdplcfineaikjaaDoor
/- The engine, words compared. For whatever program. No condition. -/
namespace Go.Proofs.YtdplcfineaikjaaDoor
set_option linter.unusedVariables false
set_option linter.unusedSimpArgs false
open Go Go.RowKit
theorem all_range64 : ∀ (xs ys : List UInt64), xs.length = ys.length → ((List.range xs.length).all fun i => xs.getD i 0 == ys.getD i 0) = (xs == ys)
  | [], [], _ => rfl
  | x :: xs, y :: ys, h => by
    have ih := all_range64 xs ys (by simpa using h)
    rw [List.length_cons, List.range_succ_eq_map, List.all_cons, List.all_map]
    simp only [List.getD_cons_zero, Function.comp_def, List.getD_cons_succ, ih]
    simp [List.cons_beq_cons]
  | [], _ :: _, h => by simp at h
  | _ :: _, [], h => by simp at h
section
variable {P : Program}
theorem run_equalIn_words (w : World) (d : Nat) (t e : TypeId) (n : Nat) (ht : P.underlying t = some (.array n e)) (he : P.underlying e = some (.int .u64)) (hsz : ∀ w, (sizeOf e).run P w = .ok 1 w)
    (xs ys : List UInt64) (hx : xs.length = n) (hy : ys.length = n) :
    (Op.equalIn (d + 2) t (.agg (u64s xs).toArray) (.agg (u64s ys).toArray)).run P w = .ok (xs == ys) w := by
  rw [← all_range64 xs ys (hx.trans hy.symm), hx, List.range_eq_range', Op.equalIn]
  simp only [Sem.run_bind, Go.run_underlying ht, Result.andThen_ok, hsz, Std.Legacy.Range.forIn_eq_forIn_range', Std.Legacy.Range.size, Nat.sub_zero, Nat.add_sub_cancel, Nat.div_one]
  have hl : ∀ i ∈ List.range' 0 n 1, i < n := fun i hi => by simpa using (List.mem_range'_1.1 hi).2
  generalize List.range' 0 n 1 = l at hl ⊢
  induction l with
  | nil => simp
  | cons i l ih =>
    have hi : i < n := hl i (by simp)
    have px : (part e (u64s xs).toArray (i * 1)).run P w = .ok (.int .u64 ((xs.getD i 0).toNat : Int)) w := by
      simp [part, isAgg, Go.run_underlying he, u64s, vl, List.getD, List.getElem?_eq_getElem (show i < xs.length by omega)]
    have py : (part e (u64s ys).toArray (i * 1)).run P w = .ok (.int .u64 ((ys.getD i 0).toNat : Int)) w := by
      simp [part, isAgg, Go.run_underlying he, u64s, vl, List.getD, List.getElem?_eq_getElem (show i < ys.length by omega)]
    have pe : (Op.equalIn (d + 1) e (.int .u64 ((xs.getD i 0).toNat : Int)) (.int .u64 ((ys.getD i 0).toNat : Int))).run P w = .ok (xs.getD i 0 == ys.getD i 0) w := by
      rw [run_equalIn_int w d e .u64 .u64 _ _ he]
      congr 1
      rw [Bool.eq_iff_iff]
      simp [← UInt64.toNat_inj]
      omega
    simp only [List.forIn_cons, Sem.run_bind, px, py, pe, Result.andThen_ok, List.all_cons]
    cases hb : (xs.getD i 0 == ys.getD i 0)
    · simp
    · simp only [Bool.not_true, Bool.false_eq_true, if_false, Sem.run_pure, Result.andThen_ok, Bool.true_and]
      exact ih fun j hj => hl j (by simp [hj])
theorem eqGuard_agg {op : BinOp} {t : TypeId} {x y : Operand} {a b : Array Value} (h : P.eqGuardType P.depth t = false) (w : World) : (eqGuard op t x y (.agg a) (.agg b)).run P w = .ok () w := by
  unfold eqGuard
  by_cases ho : (!(op matches .eql | .neq)) = true <;> simp [ho, h]
variable {n : Nat} {l : List (Nat × Value)} {E : World} {L Ls : List Heaplet} {X Y : Act → World → Prop} {d : Nat} {t t' ty e : TypeId} {x y : Operand}
theorem op_eqW {a b : List UInt64} {k : Nat} {pos : _} {aft : _} {g : _} (s : NxF P n l E L Ls ⟨some d, .binOp .eql t x y t', ty, pos, aft, g⟩ X Y) (ht : aelt P t = some (k, e, 1)) (he : P.underlying e = some (.int .u64)) (hg : P.eqGuardType P.depth t = false) (hx : ev l x = some (.agg (u64s a).toArray)) (hy : ev l y = some (.agg (u64s b).toArray)) (ha : a.length = k) (hb : b.length = k) (hn : Nat.ble (d + 1) n = true) (h : At n ((d, .bool (decide (a = b))) :: l) E L Y) : At n l E L X := by
  obtain ⟨hu, i, hi, hsz⟩ := aelt_spec ht
  exact op_bin s hx hy (fun w => eqGuard_agg hg w) (fun w => by
    rw [run_eql_struct, run_equalIn_words w 9998 t e k hu he (fun w => by rw [run_sizeOf hi, hsz]) a b ha hb]
    simp only [Result.andThen_ok, show (a == b) = decide (a = b) from by rw [Bool.eq_iff_iff]; simp]) hn h
end
end Go.Proofs.YtdplcfineaikjaaDoor
/- The engine: structs of two ints compared. For whatever program. No condition. -/
namespace Go.Proofs.YtdplcfineaikjaaDoor
set_option linter.unusedVariables false
set_option linter.unusedSimpArgs false
open Go Go.RowKit
/-- A struct of two ints with names of their own. -/
def pairInts (P : Program) (t : TypeId) : Bool := !P.eqGuardType P.depth t && !P.stoodInHeld t && match (P.fieldsOf t).toList with
  | [f, g] => (match P.underlying f.type with | some (.int .i64) => true | _ => false) && (match P.underlying g.type with | some (.int .i64) => true | _ => false) && decide (f.offset = 0) && decide (g.offset = 1) && decide (f.name ≠ "_") && decide (g.name ≠ "_")
  | _ => false
theorem i64_of {P : Program} {t : TypeId} (h : (match P.underlying t with | some (.int .i64) => true | _ => false) = true) : P.underlying t = some (.int .i64) := by
  split at h
  · assumption
  · cases h
theorem pairInts_spec {P : Program} {t : TypeId} (h : pairInts P t = true) : P.eqGuardType P.depth t = false ∧ P.stoodInHeld t = false ∧ ∃ f g, (P.fieldsOf t).toList = [f, g] ∧ P.underlying f.type = some (.int .i64) ∧ P.underlying g.type = some (.int .i64) ∧ f.offset = 0 ∧ g.offset = 1 ∧ f.name ≠ "_" ∧ g.name ≠ "_" := by
  unfold pairInts at h
  split at h
  · rename_i f g e
    simp only [Bool.and_eq_true, Bool.not_eq_true', decide_eq_true_eq] at h
    exact ⟨h.1.1, h.1.2, f, g, e, i64_of h.2.1.1.1.1.1, i64_of h.2.1.1.1.1.2, h.2.1.1.1.2, h.2.1.1.2, h.2.1.2, h.2.2⟩
  · simp at h
theorem pair_eq {P : Program} {t : TypeId} (h : pairInts P t = true) (ht : P.underlying t = some (.struct (P.fieldsOf t))) (a b c e : Int) (w : World) : (Op.equalIn 10000 t (.agg #[.int .i64 a, .int .i64 b]) (.agg #[.int .i64 c, .int .i64 e])).run P w = .ok (decide (a = c ∧ b = e)) w := by
  obtain ⟨_, h2, f, g, hf, u1, u2, o1, o2, n1, n2⟩ := pairInts_spec h
  rw [run_equalIn_struct w 9999 t _ _ ht h2, hf]
  have p : ∀ (t' : TypeId) (u : P.underlying t' = some (.int .i64)) (x y : Int), (Op.equalIn 9999 t' (.int .i64 x) (.int .i64 y)).run P w = .ok (x == y) w := fun t' u x y => run_equalIn_int w 9998 t' .i64 .i64 x y u
  have q : ∀ (t' : TypeId) (u : P.underlying t' = some (.int .i64)) (x y : Int) (o : Nat) (z : Int) (ho : (#[Value.int .i64 x, Value.int .i64 y] : Array Value)[o]? = some (.int .i64 z)), (part t' #[.int .i64 x, .int .i64 y] o).run P w = .ok (.int .i64 z) w := fun t' u x y o z ho => by
    simp [part, isAgg, Go.run_underlying u, ho]
  have q1 := q _ u1 a b 0 a rfl
  have q2 := q _ u1 c e 0 c rfl
  have q3 := q _ u2 a b 1 b rfl
  have q4 := q _ u2 c e 1 e rfl
  simp only [Op.eqFields, if_pos n1, if_pos n2, Sem.run_bind, o1, o2, q1, q2, Result.andThen_ok, p _ u1]
  by_cases e1 : a = c
  · subst e1
    by_cases e2 : b = e
    · subst e2; simp [q3, p _ u2]
    · simp [e2, q3, q4, p _ u2]
  · simp [e1]
section
variable {P : Program} {n : Nat} {l : List (Nat × Value)} {E : World} {L Ls : List Heaplet} {X Y : Act → World → Prop} {d : Nat} {t t' ty : TypeId} {x y : Operand} {a b c e : Int}
theorem op_eqP {pos : _} {aft : _} {g : _} (s : NxF P n l E L Ls ⟨some d, .binOp .eql t x y t', ty, pos, aft, g⟩ X Y) (hp : pairInts P t = true) (ht : P.underlying t = some (.struct (P.fieldsOf t))) (hx : ev l x = some (.agg #[.int .i64 a, .int .i64 b])) (hy : ev l y = some (.agg #[.int .i64 c, .int .i64 e])) (hn : Nat.ble (d + 1) n = true)
    (h : At n ((d, .bool (decide (a = c ∧ b = e))) :: l) E L Y) : At n l E L X :=
  op_bin s hx hy (fun w => eqGuard_agg (pairInts_spec hp).1 w) (fun w => by
    rw [run_eql_struct, pair_eq hp ht]; rfl) hn h
theorem op_neP {pos : _} {aft : _} {g : _} (s : NxF P n l E L Ls ⟨some d, .binOp .neq t x y t', ty, pos, aft, g⟩ X Y) (hp : pairInts P t = true) (ht : P.underlying t = some (.struct (P.fieldsOf t))) (hx : ev l x = some (.agg #[.int .i64 a, .int .i64 b])) (hy : ev l y = some (.agg #[.int .i64 c, .int .i64 e])) (hn : Nat.ble (d + 1) n = true)
    (h : At n ((d, .bool (!decide (a = c ∧ b = e))) :: l) E L Y) : At n l E L X :=
  op_bin s hx hy (fun w => eqGuard_agg (pairInts_spec hp).1 w) (fun w => by
    rw [run_neq_struct, pair_eq hp ht]; rfl) hn h
end
end Go.Proofs.YtdplcfineaikjaaDoor
